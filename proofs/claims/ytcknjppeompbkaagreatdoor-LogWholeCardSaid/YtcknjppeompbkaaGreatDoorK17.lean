import Derived.Test.YtcknjppeompbkaaGreatDoorK23
set_option linter.all false
noncomputable section
namespace Ab
open Go
section
open Go Go.RowKit
def pk (s:ByteArray) (i:Nat):Nat:=match s.data[i]? with | some b=>b.toNat | none=>0
def dgB (c:Nat):Bool:=decide (48<=c) && decide (c<=57)
def ltB (c:Nat):Bool:=decide (97<=c) && decide (c<=122)
def w7 (s:ByteArray) (from_:Nat):Nat->Nat->Nat
 | 0,i=>i
 | f+1,i=>if dgB (pk s i)=true∧i - from_ < 7∧(i=from_∨pk s from_≠48) then w7 s from_ f (i+1) else i
def zeH (s:ByteArray):Nat->Nat->Nat
 | 0,i=>i
 | f+1,i=>if ltB (pk s i)=true then zeH s f (i+1) else i
inductive PR where
 | ok (i at_:Nat) (l:List Node)
 | bad (at_:Nat)
inductive Md where
 | one
 | row (lv:Bool)
 | more (lv:Bool) (i:Nat)
def zdN (lv:Bool):Md:=if lv=true then .row false else .one
def dG (lv:Bool) (c:Nat):Bool:=if lv=true then c == 43 || c == 45 else c == 42 || c == 47
def opC (c:Nat):Int:=if c=43 then 3 else if c=45 then 4 else if c=42 then 5 else 6
def rd (s:ByteArray):Nat->Md->Nat->List Node->Option PR
 | 0,_,_,_=>none
 | f+1,.one,at_,l =>
  if 1000<=l.length then none
  else if dgB (pk s at_)=true then some (.ok l.length (w7 s at_ 8 at_) (l++[⟨1,(zgt (s.extract at_ (w7 s at_ 8 at_))).1,⟨#[]⟩,0,0⟩]))
  else if ltB (pk s at_)=true then some (.ok l.length (zeH s (s.size+1) at_) (l++[⟨2,0,s.extract at_ (zeH s (s.size+1) at_),0,0⟩]))
  else if pk s at_≠40 then some (.bad at_)
  else match rd s f (.row true) (at_+1) l with
   | some (.ok i a l')=>if pk s a≠41 then some (.bad a) else some (.ok i (a+1) l')
   | r=>r
 | f+1,.row lv,at_,l=>match rd s f (zdN lv) at_ l with
  | some (.ok i a l')=>rd s f (.more lv i) a l'
  | r=>r
 | f+1,.more lv i,at_,l =>
  if dG lv (pk s at_)=false then some (.ok i at_ l)
  else match rd s f (zdN lv) (at_+1) l with
   | some (.ok k a l')=>if 1000<=l'.length then none else rd s f (.more lv l'.length) a (l'++[⟨opC (pk s at_),0,⟨#[]⟩,i,k⟩])
   | r=>r
def dg_lt {s:ByteArray} {j:Nat} (h:dgB (pk s j)=true):j < s.size:=by
 unfold pk at h;cases hj:s.data[j]? with
 | none=>rw[hj] at h;simp[dgB] at h
 | some b=>exact (Bb.1 hj).1
def lt_lt {s:ByteArray} {j:Nat} (h:ltB (pk s j)=true):j < s.size:=by
 unfold pk at h;cases hj:s.data[j]? with
 | none=>rw[hj] at h;simp[ltB] at h
 | some b=>exact (Bb.1 hj).1
def zey {s:ByteArray} {j:Nat} (h:pk s j≠0):j < s.size:=by
 unfold pk at h;cases hj:s.data[j]? with
 | none=>rw[hj] at h;exact absurd rfl h
 | some b=>exact (Bb.1 hj).1
def pk_at {s:ByteArray} {j:Nat} (h:j < s.size):s.data[j]? = some (s.data[j]'h)∧pk s j=(s.data[j]'h).toNat:=by have e:s.data[j]? = some (s.data[j]'h):=A8 h;exact ⟨e,by unfold pk;rw[e]⟩
def pk_256 (s:ByteArray) (j:Nat):pk s j < 256:=by
 unfold pk;cases s.data[j]? with
 | none=>decide
 | some b=>exact b.toNat_lt
def zas (s:ByteArray) (a:Nat):∀ (f i:Nat),i<=w7 s a f i∧(∀ j,i<=j->j < w7 s a f i->dgB (pk s j)=true)∧(i - a<=7->w7 s a f i - a<=7)∧(i<=s.size->w7 s a f i<=s.size)
 | 0,i=>⟨AO _,fun j h1 h2=>absurd (B6 h1 h2) (Cy _),id,id⟩
 | f+1,i=>by
  simp only[w7];split
  ·rename_i h;obtain ⟨h1,h2,h3,h4⟩:=zas s a f (i+1);refine ⟨by omega,fun j h5 h6 => ?_,fun _=>h3 (by omega),fun _=>h4 (dg_lt h.1)⟩;by_cases e:j=i
   ·subst e;exact h.1
   ·exact h2 j (by omega) h6
  ·exact ⟨AO _,fun j h1 h2=>absurd (B6 h1 h2) (Cy _),id,id⟩
def zcD (s:ByteArray):∀ (f i:Nat),i<=zeH s f i∧(∀ j,i<=j->j < zeH s f i->ltB (pk s j)=true)∧(i<=s.size->zeH s f i<=s.size)
 | 0,i=>⟨AO _,fun j h1 h2=>absurd (B6 h1 h2) (Cy _),id⟩
 | f+1,i=>by
  simp only[zeH];split
  ·rename_i h;obtain ⟨h1,h2,h4⟩:=zcD s f (i+1);refine ⟨by omega,fun j h5 h6 => ?_,fun _=>h4 (lt_lt h)⟩;by_cases e:j=i
   ·subst e;exact h
   ·exact h2 j (by omega) h6
  ·exact ⟨AO _,fun j h1 h2=>absurd (B6 h1 h2) (Cy _),id⟩
def uint_ok:∀ (ds:List UInt8) (acc k:Nat),(∀ c∈ds,48<=c.toNat∧c.toNat<=57)->acc < 10 ^ k->k+ds.length<=15->∃ u,Lib.parseUint10 acc ds=.ok u∧u < 10 ^ (k+ds.length)
 | [],acc,k,_,h,_=>⟨acc,rfl,h⟩
 | c :: r,acc,k,hd,h,hl=>by
  obtain ⟨h1,h2⟩:=hd c (by simp);simp only[AK] at hl;have hp:(10:Nat) ^ k<=10 ^ 15:=B2 (by decide) (by omega);have hq:(10:Nat) ^ (k+1)<=10 ^ 15:=B2 (by decide) (by omega);have hs:(10:Nat) ^ (k+1)=10 ^ k * 10:=Nat.pow_succ ..;obtain ⟨u,e1,e2⟩:=uint_ok r (acc * 10+(c.toNat - 48)) (k+1) (fun c hc=>hd c (Ad _ hc)) (by omega) (by omega);refine ⟨u, ?_,by simp only[AK];rw[show k+(r.length+1)=k+1+r.length by omega];exact e2⟩;simp only[Lib.parseUint10];rw[if_pos ⟨h1,h2⟩,if_neg (by omega),if_neg (by omega)];exact e1
def atoi_dig {ds:List UInt8} (h:ds≠[]) (hd:∀ c∈ds,48<=c.toNat∧c.toNat<=57) (hl:ds.length<=15):∃ v,Lib.atoiAll ds=.ok v:=by
 cases ds with
 | nil=>exact absurd rfl h
 | cons c r =>
  obtain ⟨u,e1,e2⟩:=uint_ok (c :: r) 0 0 hd (by decide) (by omega);obtain ⟨h1,h2⟩:=hd c (by simp);have e3:(10:Nat) ^ (0+(c :: r).length)<=10 ^ 15:=B2 (by decide) (by omega);have e4:(10:Nat) ^ 15=1000000000000000:=by decide
  refine ⟨(u:Int), ?_⟩;simp only[Lib.atoiAll,Lib.parseMag];rw[if_neg (show ¬ (c.toNat=43∨c.toNat=45) by omega),if_neg (show ¬ (c :: r=[]) by simp),e1];simp only;rw[if_neg (by omega),if_neg (by omega),if_neg (by omega)]
def ext_list (s:ByteArray) (a e:Nat):(s.extract a e).data.toList=(s.data.toList.drop a).take (e - a):=by rw[ByteArray.data_extract,Array.toList_extract]
def zeF {s:ByteArray} {a:Nat} (h:dgB (pk s a)=true):∃ v,Lib.atoiAll (s.extract a (w7 s a 8 a)).data.toList=.ok v:=by
 obtain ⟨h1,h2,h3,h4⟩:=zas s a 8 a;have h5:=h3 (by omega);have aq:=dg_lt h;have hle:=h4 (by omega);have ah:a < w7 s a 8 a:=by
  have:w7 s a 8 a=w7 s a 7 (a+1):=by
   show (if _ then _ else _)=_
   rw[if_pos ⟨h,by omega,.inl rfl⟩]
  rw[this];exact (zas s a 7 (a+1)).1
 rw[ext_list];have aG:s.data.toList.length=s.size:=rfl;refine atoi_dig (fun e => ?_) (fun c hc => ?_) ?_
 ·have:=congrArg List.length e;simp only[AY,Bd,B4] at this;omega
 ·obtain ⟨j,hj,rfl⟩:=List.getElem_of_mem hc;simp only[AY,Bd] at hj;have:=h2 (a+j) (by omega) (by omega);rw[(pk_at (show a+j < s.size by omega)).2] at this;simp only[List.getElem_take,List.getElem_drop,Array.getElem_toList];simp only[dgB,Ak,decide_eq_true_eq] at this;exact this
 ·rw[AY];omega
def zew (s:ByteArray):∀ (f:Nat) (m:Md) (at_:Nat) (l:List Node) (i a:Nat) (l':List Node),rd s f m at_ l=some (.ok i a l')->at_<=a
 | 0,_,_,_,_,_,_,h=>by cases h
 | f+1,.one,at_,l,i,a,l',h=>by
  simp only[rd] at h;split at h
  ·cases h
  split at h
  ·cases h;exact (zas s at_ 8 at_).1
  split at h
  ·cases h;exact (zcD s (s.size+1) at_).1
  split at h
  ·cases h
  cases hs:rd s f (.row true) (at_+1) l with
  | none=>rw[hs] at h;cases h
  | some r =>
   rw[hs] at h;cases r with
   | bad b=>cases h
   | ok j b l2 =>
    have:=zew s f _ _ _ _ _ _ hs;simp only at h;split at h
    ·cases h
    ·cases h;omega
 | f+1,.row lv,at_,l,i,a,l',h=>by
  simp only[rd] at h;cases hs:rd s f (zdN lv) at_ l with
  | none=>rw[hs] at h;cases h
  | some r =>
   rw[hs] at h;cases r with
   | bad b=>cases h
   | ok j b l2 =>have h1:=zew s f _ _ _ _ _ _ hs;have h2:=zew s f _ _ _ _ _ _ h;omega
 | f+1,.more lv j0,at_,l,i,a,l',h=>by
  simp only[rd] at h;split at h
  ·cases h;exact AO _
  cases hs:rd s f (zdN lv) (at_+1) l with
  | none=>rw[hs] at h;cases h
  | some r =>
   rw[hs] at h;cases r with
   | bad b=>cases h
   | ok j b l2 =>
    have h1:=zew s f _ _ _ _ _ _ hs;simp only at h;split at h
    ·cases h
    ·have h2:=zew s f _ _ _ _ _ _ h;omega
end
section
end
section
def zjp (n:List (List Int)) (i:Nat):Nat->List Bool->List Int->Option Bool
 | 0,_,_=>none
 | f+1,seen,[]=>some false
 | f+1,seen,k :: row=>if k=i then some true else if seen.getD k.toNat false=true then zjp n i f seen row else zjp n i f (seen.set k.toNat true) (row++n.getD k.toNat [])
def zeL (n:List (List Int)) (seen:List Bool):Nat:=((List.range n.length).map fun k=>if seen.getD k false=true then 0 else (n.getD k []).length).sum
def zdM:∀ (l:List Nat) (f g:Nat->Nat) (k d:Nat),l.Nodup->k∈l->(∀ j,j≠k->f j=g j)->f k=g k+d->(l.map f).sum=(l.map g).sum+d
 | [],_,_,_,_,_,h,_,_=>by cases h
 | a :: r,f,g,k,d,hn,hk,h1,h2=>by
  rw[List.nodup_cons] at hn;simp only[An,List.sum_cons];by_cases e:a=k
  ·subst e;have:r.map f=r.map g:=Al fun x hx=>h1 x (by rintro rfl;exact hn.1 hx);rw[this,h2];omega
  ·have au:k∈r:=by
    rcases Aq.1 hk with rfl | h
    ·exact absurd rfl e
    ·exact h
   rw[h1 a e,zdM r f g k d hn.2 au h1 h2];omega
def zfW {n:List (List Int)} {seen:List Bool} (hs:seen.length=n.length) {k:Nat} (hk:k < n.length) (h:seen.getD k false=false):zeL n seen=zeL n (seen.set k true)+(n.getD k []).length:=by
 unfold zeL;refine zdM _ _ _ k _ List.nodup_range (Bc.2 hk) (fun j hj => ?_) ?_
 ·have h1:(seen.set k true).getD j false=seen.getD j false:=(by simp only[AF,BI];rw[if_neg (fun e:k=j=>hj e.symm)]);show (if seen.getD j false=true then _ else _)=if (seen.set k true).getD j false=true then _ else _
  rw[h1]
 ·have h1:(seen.set k true).getD k false=true:=(by simp only[AF,BI];simp[hs,hk]);show (if seen.getD k false=true then 0 else _)=(if (seen.set k true).getD k false=true then 0 else _)+_
  rw[h,h1];simp
def zdk {n:List (List Int)} (hr:Rng n) (i:Nat):∀ (f:Nat) (seen:List Bool) (row:List Int),seen.length=n.length->(∀ k∈row,0<=k∧k < n.length)->zeL n seen+row.length < f->∃ b,zjp n i f seen row=some b
 | 0,_,_,_,_,h=>by omega
 | f+1,seen,[],_,_,_=>⟨false,rfl⟩
 | f+1,seen,k :: row,hs,hk,h=>by
  have bw:=hk k (by simp);simp only[AK] at h;simp only[zjp];split
  ·exact ⟨true,rfl⟩
  split
  ·exact zdk hr i f seen row hs (fun x hx=>hk x (Ad _ hx)) (by omega)
  ·rename_i h1;have h2:=zfW (n:=n) hs (k:=k.toNat) (by omega) (Bool.eq_false_iff.2 h1);refine zdk hr i f _ _ (by simpa using hs) (fun x hx => ?_) (by rw[AX];omega);rcases Ao.1 hx with hx | hx
   ·exact hk x (Ad _ hx)
   ·exact hr _ x hx
inductive Reach (n:List (List Int)):Nat->Nat->Prop
 | one {a b:Nat}:b∈nd n a->Reach n a b
 | more {a b c:Nat}:b∈nd n a->Reach n b c->Reach n a c
def Reach.snoc {n:List (List Int)} {a b c:Nat} (h:Reach n a b) (hc:c∈nd n b):Reach n a c:=by
 induction h with
 | one h=>exact .more h (.one hc)
 | more h _ ih=>exact .more h (ih hc)
def zdj {n:List (List Int)} (hr:Rng n) (a i:Nat):∀ (f:Nat) (seen:List Bool) (row:List Int),(∀ k∈row,0<=k∧Reach n a k.toNat)->zjp n i f seen row=some true->Reach n a i
 | 0,_,_,_,h=>by cases h
 | f+1,seen,[],_,h=>by cases h
 | f+1,seen,k :: row,hk,h=>by
  have bw:=hk k (by simp);simp only[zjp] at h;split at h
  ·rename_i e;have:k.toNat=i:=by omega
   rw[← this];exact bw.2
  split at h
  ·exact zdj hr a i f seen row (fun x hx=>hk x (Ad _ hx)) h
  ·refine zdj hr a i f _ _ (fun x hx => ?_) h;rcases Ao.1 hx with hx | hx
   ·exact hk x (Ad _ hx)
   ·exact ⟨(hr _ x hx).1,bw.2.snoc (Ap.2 ⟨x,hx,rfl⟩)⟩
def zbx {n:List (List Int)} (hr:Rng n) (i:Nat):∀ (f:Nat) (seen:List Bool) (row:List Int),seen.length=n.length->(∀ k∈row,0<=k∧k < n.length) ->
  (∀ j,seen.getD j false=true->j≠i∧∀ k∈nd n j,seen.getD k false=true∨(k:Int)∈row)->zjp n i f seen row=some false ->
  ∃ S:Nat->Prop,(∀ j,seen.getD j false=true->S j)∧(∀ k∈row,S k.toNat)∧(∀ j,S j->∀ k∈nd n j,S k)∧¬ S i
 | 0,_,_,_,_,_,h=>by cases h
 | f+1,seen,[],hs,_,hc,_=>⟨fun j=>seen.getD j false=true,fun j hj=>hj,fun k hk=>(by cases hk),fun j hj k hk=>((hc j hj).2 k hk).elim id (fun e=>by cases e),fun hi=>(hc i hi).1 rfl⟩
 | f+1,seen,k :: row,hs,hk,hc,h=>by
  have bw:=hk k (by simp);simp only[zjp] at h;split at h
  ·cases h
  rename_i e;split at h
  ·rename_i e2;obtain ⟨S,s1,s2,s3,s4⟩:=zbx hr i f seen row hs (fun x hx=>hk x (Ad _ hx)) (fun j hj=>⟨(hc j hj).1,fun x hx=>by
    rcases (hc j hj).2 x hx with h1 | h1
    ·exact .inl h1
    ·rcases Aq.1 h1 with h1 | h1
     ·left;rw[← e2,← h1];simp
     ·exact .inr h1⟩) h
   refine ⟨S,s1,fun x hx => ?_,s3,s4⟩;rcases Aq.1 hx with rfl | hx
   ·exact s1 _ e2
   ·exact s2 x hx
  ·rename_i e2;have hg:∀ j,(seen.set k.toNat true).getD j false=true↔j=k.toNat∨seen.getD j false=true:=by
    intro j;simp only[AF,BI];by_cases hj:k.toNat=j
    ·subst hj;simp[show k.toNat < seen.length by omega]
    ·rw[if_neg hj];constructor
     ·exact .inr
     ·rintro (h1 | h1)
      ·exact absurd h1.symm hj
      ·exact h1
   obtain ⟨S,s1,s2,s3,s4⟩:=zbx hr i f (seen.set k.toNat true) (row++n.getD k.toNat []) (by simpa using hs) (fun x hx=>by
     rcases Ao.1 hx with hx | hx
     ·exact hk x (Ad _ hx)
     ·exact hr _ x hx) (fun j hj=>by
     rcases (hg j).1 hj with rfl | hj
     ·refine ⟨by omega,fun x hx=>.inr ?_⟩;simp only[nd,Ap] at hx;obtain ⟨y,hy,rfl⟩:=hx;have:=(hr _ y hy).1;rw[show ((y.toNat:Nat):Int)=y by omega];exact List.mem_append_right _ hy
     ·refine ⟨(hc j hj).1,fun x hx => ?_⟩;rcases (hc j hj).2 x hx with h1 | h1
      ·exact .inl ((hg x).2 (.inr h1))
      ·rcases Aq.1 h1 with h1 | h1
       ·left;exact (hg x).2 (.inl (by omega))
       ·exact .inr (List.mem_append_left _ h1)) h
   refine ⟨S,fun j hj=>s1 j ((hg j).2 (.inr hj)),fun x hx => ?_,s3,s4⟩;rcases Aq.1 hx with rfl | hx
   ·exact s1 _ ((hg _).2 (.inl rfl))
   ·exact s2 x (List.mem_append_left _ hx)
def zeo (n:List (List Int)) (i:Nat):Option Bool:=zjp n i (zeL n (List.replicate n.length false)+(n.getD i []).length+1) (List.replicate n.length false) (n.getD i [])
def rep_false (m j:Nat):(List.replicate m false).getD j false=false:=by
 simp only[AF,Ch]
 split<;>rfl
def zdR {n:List (List Int)} (hr:Rng n) (i:Nat):∃ b,zeo n i=some b:=zdk hr i _ _ _ (by simp) (fun k hk=>hr i k hk) (by omega)
def ziL {n:List (List Int)} (hr:Rng n) {i:Nat} (h:zeo n i=some true):Reach n i i :=
 zdj hr i i _ _ _ (fun k hk=>⟨(hr i k hk).1,.one (Ap.2 ⟨k,hk,rfl⟩)⟩) h
def zgT {n:List (List Int)} (hr:Rng n) {i:Nat} (h:zeo n i=some false):∃ S:Nat->Prop,(∀ k∈nd n i,S k)∧(∀ j,S j->∀ k∈nd n j,S k)∧¬ S i:=by obtain ⟨S,_,s2,s3,s4⟩:=zbx hr i _ _ _ (by simp) (fun k hk=>hr i k hk) (fun j hj=>by rw[rep_false] at hj;cases hj) h;refine ⟨S,fun k hk => ?_,s3,s4⟩;simp only[nd,Ap] at hk;obtain ⟨x,hx,rfl⟩:=hk;exact s2 x hx
def zfD {n:List (List Int)} {S:Nat->Prop} (hS:∀ j,S j->∀ k∈nd n j,S k) {a b:Nat} (h:Reach n a b):(∀ k∈nd n a,S k)->S b:=by
 induction h with
 | one h=>exact fun h1=>h1 _ h
 | more h _ ih=>exact fun h1=>ih fun k hk=>hS _ (h1 _ h) k hk
def selfN_iff {n:List (List Int)} (hr:Rng n) (i:Nat):zeo n i=some true↔Reach n i i:=by
 constructor
 ·exact ziL hr
 ·intro h;obtain ⟨b,hb⟩:=zdR hr i;cases b with
  | true=>exact hb
  | false =>obtain ⟨S,s1,s2,s3⟩:=zgT hr hb;exact absurd (zfD s2 h s1) s3
end
section
set_option maxRecDepth 100000
section
variable (F105:Err->(Option Int))
def tc92:TCode:=.seq (rg [om 4 (cb false)]) (.seq (rg [om 6 0,oq 7 (.call false [] 105 [6]),om 5 7]) (.seq (rg [om 8 5,om 9 1,oq 10 (.bin .int .eql 8 9),om 4 10]) (.ret))) 
def tf92:TFunc:=⟨2,11,[.tmp 4],false,tc92,[]⟩
def S92 (a0:Err) (a1:Int):Option Bool :=
 bno (F105 a0) fun y1 =>
 some (decide (y1=a1))
def P92:=S92 P105
def k92:CSpec:=⟨92,[.err,.int],.bool,fun x=>P92 x.1 x.2,false,[]⟩
def r92 {S:Seat} (h:Ok1 S 92 tf92):RtF S [k105] (Rt S k92):=okr h rfl fun x=>by kernel_rfl
end
end
end Ab
