import Derived.Test.YtchidgkpkhloeaaGreatDoorH9
open List (getElem?_eq_getElem getElem?_zip_eq_some length_zip mem_cons_of_mem mem_cons_self)
open Nat (add_mul le_trans min_self mod_lt mul_assoc mul_comm)
open Int (toNat_natCast)
set_option linter.unusedVariables false
set_option linter.unusedSimpArgs false
namespace Ab
open Go
section
def qn:List Dim->Nat->List Int×Nat
 | [],n=>([],n)
 | d :: r,n=>(((((qn r n).2 % d.members.length:Nat)):Int) :: (qn r n).1,(qn r n).2 / d.members.length)
theorem zhp (o:List Dim) (n:Nat):(qn o n).1.length=o.length:=by
 induction o with
 | nil=>rfl
 | cons d r ih=>simp[qn,ih]
theorem digs_le (o:List Dim) (n:Nat):(qn o n).2<=n:=by
 induction o with
 | nil=>exact Nat.le_refl _
 | cons d r ih=>simp only[qn];exact le_trans (Nat.div_le_self _ _) ih
theorem set_rep (k:Nat) (x:Int) (l:List Int):(List.replicate (k+1) (0:Int)++l).set k x=List.replicate k 0++x :: l:=by
 induction k with
 | zero=>rfl
 | succ k ih=>rw[List.replicate_succ,List.cons_append,List.set_cons_succ,ih];rfl
theorem P69_eq (o:List Dim) (n:Nat) (hl:o.length<=1000) (hn:n<=1000000000) (hp:∀ d∈o,0 < d.members.length∧d.members.length<=1000000):P69 o (n:Int)=some (qn o n).1:=by
 have hck:(0:Int)<=(o.length:Int)∧(o.length:Int)<=(o.length:Int)∧(o.length:Int)<=zZ:=by unfold zZ;omega
 have hs:=qu (B:=zfL o) (fun k=>((((qn (o.drop (o.length - k)) n).2:Nat):Int),((o.length:Int) - k - 1,List.replicate (o.length - k) (0:Int)++(qn (o.drop (o.length - k)) n).1))) o.length (fun k hk=>by
  obtain ⟨j,hj⟩:∃ j,o.length - k=j+1:=⟨o.length - k - 1,by omega⟩;have hj2:o.length - (k+1)=j:=by omega
  have hjl:j < o.length:=by omega
  have hd:=getElem?_eq_getElem hjl;have hdrop:o.drop j=o[j] :: o.drop (j+1):=List.drop_eq_getElem_cons hjl;have hpos:=hp o[j] (List.getElem_mem hjl);have hle:=digs_le (o.drop (j+1)) n;have ei:(o.length:Int) - (k:Int) - 1=(j:Int):=by omega
  have ei2:(o.length:Int) - ((k+1:Nat):Int) - 1=(j:Int) - 1:=by omega
  have h0:(0:Int)<=(j:Int):=by omega
  have hne:¬ ((o[j].members.length:Nat):Int)=0:=by omega
  simp only[hj,hj2,ei,ei2,hdrop,qn];have hlen:(List.replicate (j+1) (0:Int)++(qn (o.drop (j+1)) n).1).length=o.length:=by simp[zhp];omega
  have hck2:(0:Int)<=(j:Int)∧(j:Int) < (((List.replicate (j+1) (0:Int)++(qn (o.drop (j+1)) n).1).length:Nat):Int):=by rw[hlen];omega
  have hget:(List.replicate (j+1) (0:Int)++(qn (o.drop (j+1)) n).1)[j]? = some 0:=(by rw[List.getElem?_append_left (by simp),List.getElem?_replicate];simp);simp only[zfL,h0,decide_true,zt,zi,hd,zB,hne,not_false_eq_true,ck_true,hck2.2,true_and,toNat_natCast,hget,set_rep,zaq];have ediv:Int.tdiv (((qn (o.drop (j+1)) n).2:Nat):Int) ((o[j].members.length:Nat):Int)=(((qn (o.drop (j+1)) n).2 / o[j].members.length:Nat):Int):=rfl;have emod:Int.tmod (((qn (o.drop (j+1)) n).2:Nat):Int) ((o[j].members.length:Nat):Int)=(((qn (o.drop (j+1)) n).2 % o[j].members.length:Nat):Int):=rfl;have hdl:=Nat.div_le_self (qn (o.drop (j+1)) n).2 o[j].members.length;rw[ediv,emod];clear ediv emod;generalize (qn (o.drop (j+1)) n).2 / o[j].members.length=q at hdl ⊢;rw[j9 (n:=(q:Int)) (by omega) (by omega),j9 (by omega) (by omega)])
 have e0:o.drop (o.length - 0)=[]:=by simp
 have e1:o.drop (o.length - o.length)=o:=by simp
 simp only[e0,e1] at hs;simp only[Nat.sub_self,List.replicate_zero,List.nil_append,Nat.sub_zero,qn,List.append_nil] at hs;have hs2:lpO (zfL o) ((n:Int),((o.length:Int) - 1,List.replicate o.length (0:Int)))=some (.inl ((((qn o n).2:Nat):Int),(-1,(qn o n).1))):=by
  have ea:(o.length:Int) - ((0:Nat):Int) - 1=(o.length:Int) - 1:=by omega
  have eb:(o.length:Int) - ((o.length:Nat):Int) - 1 = -1:=by omega
  rw[ea,eb] at hs;exact hs.trans (q8 (by simp[zfL]))
 simp only[P69,S69,zP hck,yF,toNat_natCast,List.length_replicate];rw[j9 (by omega) (by omega),hs2];rfl
def badM (x:Int×Dim):Bool:=decide (x.1 < 0) || decide ((x.2.members.length:Int)<=x.1)
def zaE (o:List Dim) (p:List Int):Int:=if ¬ p.length=o.length then 3 else if (p.zip o).any badM=true then 1 else 0
structure Fit (o:List Dim) (p:List Int):Prop where
 len:p.length=o.length
 mem:∀ (i:Nat) (m:Int) (d:Dim),p[i]? = some m->o[i]? = some d->0<=m∧m < d.members.length
theorem zaY {o:List Dim} {p:List Int}:zaE o p=0↔Fit o p:=by
 unfold zaE;by_cases h1:p.length=o.length
 ·rw[if_neg (by simpa using h1)];by_cases h2:(p.zip o).any badM=true
  ·rw[if_pos h2];refine ⟨fun e=>(by cases e),fun h => ?_⟩;obtain ⟨x,hx,hb⟩:=List.any_eq_true.1 h2;obtain ⟨i,hi⟩:=List.mem_iff_getElem?.1 hx;obtain ⟨e1,e2⟩:=getElem?_zip_eq_some.1 hi;have:=h.mem i _ _ e1 e2;simp only[badM,Bool.or_eq_true,decide_eq_true_eq] at hb;omega
  ·rw[if_neg h2];refine ⟨fun _=>⟨h1,fun i m d hm hd => ?_⟩,fun _=>rfl⟩;have hx:(m,d)∈p.zip o:=List.mem_iff_getElem?.2 ⟨i,getElem?_zip_eq_some.2 ⟨hm,hd⟩⟩;have:¬ badM (m,d)=true:=fun e=>h2 (List.any_eq_true.2 ⟨_,hx,e⟩);simp only[badM,Bool.or_eq_true,decide_eq_true_eq] at this;omega
 ·rw[if_pos h1];exact ⟨fun e=>(by cases e),fun h=>absurd h.len h1⟩
theorem P58_eq (o:List Dim) (p:List Int) (h:p.length<=9223372036854775807):P58 o p=some (zp (zaE o p)):=by
 simp only[P58,S58];unfold zaE;by_cases h1:p.length=o.length
 ·have e:((p.length:Nat):Int)=((o.length:Nat):Int):=by omega
  rw[if_neg (by simpa using h1)];simp only[e,not_true,decide_false,zj];rw[zen badM (p.zip o) (Err.no 1) Err.nil (fun i y hy => ?_) (by rw[length_zip,← h1,min_self];simp[S58_L1])]
  ·cases (p.zip o).any badM<;>simp[zp]
  ·obtain ⟨e1,e2⟩:=getElem?_zip_eq_some.1 hy;have hi:=(List.getElem?_eq_some_iff.1 e1).1;have e:((i:Nat):Int) < ((p.length:Nat):Int):=by omega
   simp only[S58_L1,e,decide_true,zt,zi,e1,e2,zB,badM];rw[j9 (by omega) (by omega)];by_cases c1:y.1 < 0
   ·simp[c1]
   ·by_cases c2:(y.2.members.length:Int)<=y.1<;>simp[c1,c2]
 ·have e:¬ ((p.length:Nat):Int)=((o.length:Nat):Int):=by omega
  rw[if_pos h1];simp[e,zp]
def zac (o:List Dim) (p:List Int):Bool:=(p.zip o).all fun x=>zb5 x.2.members x.1.toNat
theorem all_any {α:Type} (f:α->Bool) (l:List α):l.all f = !l.any fun x => !f x:=by
 induction l with
 | nil=>rfl
 | cons a l ih=>simp only[List.all_cons,List.any_cons,ih];cases f a<;>rfl
theorem P59_eq {o:List Dim} {p:List Int} (hf:Fit o p) (h:p.length<=9223372036854775807) (hd:∀ d∈o,d.members.length<=1000):P59 o p=some (zac o p):=by
 simp only[P59,S59];rw[zen (fun x:Int×Dim => !zb5 x.2.members x.1.toNat) (p.zip o) false true (fun i y hy => ?_) (by rw[length_zip,← hf.len,min_self];simp[S59_L1])]
 ·rw[zac,all_any];cases (p.zip o).any fun x => !zb5 x.2.members x.1.toNat<;>rfl
 ·obtain ⟨e1,e2⟩:=getElem?_zip_eq_some.1 hy;have hi:=(List.getElem?_eq_some_iff.1 e1).1;have e:((i:Nat):Int) < ((p.length:Nat):Int):=by omega
  have hm:=hf.mem i _ _ e1 e2;have hl:=hd _ (List.mem_of_getElem? e2);obtain ⟨k,hk⟩:=Int.eq_ofNat_of_zero_le hm.1;rw[hk] at hm e1;simp only[S59_L1,e,decide_true,zt,zi,e1,e2,zB,hk,P44_eq hl (by omega:k < y.2.members.length),toNat_natCast];rw[j9 (by omega) (by omega)];cases zb5 y.2.members k<;>rfl
def numW (o:List Dim) (p:List Int):Int:=(p.zip o).foldl (fun n x=>wi (wi (n * (x.2.members.length:Int))+x.1)) 0
theorem P49_eq {o:List Dim} {p:List Int} (hl:p.length=o.length) (h:p.length<=9223372036854775807):P49 o p=some (numW o p):=by
 have hz:(p.zip o).length=p.length:=by rw[length_zip,← hl,min_self]
 have hs:=qu (B:=zfN o p) (fun i=>(((p.zip o).take i).foldl (fun n x=>wi (wi (n * (x.2.members.length:Int))+x.1)) 0,(i:Int))) p.length (fun i hi=>by
  have e:((i:Nat):Int) < ((p.length:Nat):Int):=by omega
  have hx:(p.zip o)[i]? = some (p[i],o[i]'(by omega)):=getElem?_zip_eq_some.2 ⟨getElem?_eq_getElem hi,getElem?_eq_getElem (by omega)⟩;simp only[zfN,e,decide_true,zt,zi,getElem?_eq_getElem hi,getElem?_eq_getElem (by omega:i < o.length),zB,zaq];rw[j9 (n:=(i:Int)+1) (by omega) (by omega),zaD _ _ _ hx];rfl)
 have ht:(p.zip o).take p.length=p.zip o:=by rw[← hz,List.take_length]
 rw[ht] at hs;have hs:lpO (zfN o p) (0,0)=some (.inl (numW o p,(p.length:Int))):=hs.trans (q8 (by simp[zfN,numW]));simp only[P49,S49,yF,hs,yO]
end
section
def cmpL:List Int->List Int->Int
 | [],[]=>0
 | [],_ :: _ => -1
 | _ :: _,[]=>1
 | x :: a,y :: b=>if x < y then -1 else if y < x then 1 else cmpL a b
def valOk (n:Int):Bool:=decide (-1000000<=n) && decide (n<=1000000)
structure EntsOk (o:List Dim) (l:List Entry):Prop where
 out:OutOk o
 fit:∀ e∈l,Fit o e.at_
 leaf:∀ e∈l,zac o e.at_=true
 val:∀ e∈l,valOk e.n=true
 rise:∀ (i:Nat) (a b:Entry),l[i]? = some a->l[i+1]? = some b->cmpL a.at_ b.at_ < 0
end
section
def sizeN (o:List Dim):Nat:=o.foldr (fun d n=>d.members.length * n) 1
theorem digs_size (o:List Dim) (hp:∀ d∈o,0 < d.members.length):∀ (q s:Nat),s < sizeN o->qn o (q * sizeN o+s)=((qn o s).1,q):=by
 induction o with
 | nil=>intro q s hs;simp[sizeN] at hs;subst hs;simp[qn,sizeN]
 | cons d r ih =>
  intro q s hs;have hpr:∀ x∈r,0 < x.members.length:=fun x hx=>hp x (mem_cons_of_mem _ hx);have hd:=hp d mem_cons_self;have hS:sizeN (d :: r)=d.members.length * sizeN r:=rfl;have hSr:0 < sizeN r:=by
   cases h:sizeN r with
   | zero=>rw[hS,h] at hs;simp at hs
   | succ=>omega
  rw[hS] at hs ⊢;have hs1:s=(s / sizeN r) * sizeN r+s % sizeN r:=by rw[mul_comm];exact (Nat.div_add_mod s (sizeN r)).symm
  have hs2:s % sizeN r < sizeN r:=mod_lt _ hSr;have hs3:s / sizeN r < d.members.length:=Nat.div_lt_of_lt_mul (by rw[mul_comm];exact hs);have e1:q * (d.members.length * sizeN r)+s=(q * d.members.length+s / sizeN r) * sizeN r+s % sizeN r:=(by rw[add_mul,mul_assoc,Nat.add_assoc];omega);have d1:=ih hpr (q * d.members.length+s / sizeN r) (s % sizeN r) hs2;have d2:=ih hpr (s / sizeN r) (s % sizeN r) hs2;rw[← e1] at d1;rw[← hs1] at d2;simp only[qn,d1,d2];rw[Nat.add_comm (q * d.members.length),Nat.add_mul_mod_self_right,Nat.mod_eq_of_lt hs3,Nat.add_mul_div_right _ _ hd,Nat.div_eq_of_lt hs3,Nat.zero_add]
def allIn {α:Type}:List (α->Bool)->List α->Bool
 | f :: fs,x :: xs=>f x && allIn fs xs
 | _,_=>true
end
section
theorem size_fold:∀ (o:List Dim) (n:Nat),(∀ d∈o,0 < d.members.length)->n * sizeN o<=1000000000->o.foldl (fun n d=>wi (n * ((d.members.length:Nat):Int))) (n:Int)=((n * sizeN o:Nat):Int)
 | [],n,_,_=>by simp[sizeN]
 | d :: r,n,hp,hb=>by
  have hS:sizeN (d :: r)=d.members.length * sizeN r:=rfl;have hpr:∀ x∈r,0 < x.members.length:=fun x hx=>hp x (mem_cons_of_mem _ hx);rw[hS,← mul_assoc] at hb;have hr:0 < sizeN r:=by
   clear hb hS hp
   induction r with
   | nil=>simp[sizeN]
   | cons a r ih =>have h1:=hpr a mem_cons_self;have h2:=ih fun x hx=>hpr x (mem_cons_of_mem _ hx);show 0 < a.members.length * sizeN r;exact Nat.mul_pos h1 h2
  have hb2:n * d.members.length<=1000000000:=le_trans (Nat.le_mul_of_pos_right _ hr) hb;have hw:wi ((n:Int) * ((d.members.length:Nat):Int))=((n * d.members.length:Nat):Int):=(by rw[← Int.natCast_mul,j9 (by omega) (by omega)]);rw[List.foldl_cons,hw,size_fold r _ hpr hb,hS,← mul_assoc]
theorem size_le:∀ (o:List Dim),(∀ d∈o,d.members.length<=12)->sizeN o<=12 ^ o.length
 | [],_=>by simp[sizeN]
 | d :: r,h=>by
  have h1:=h d mem_cons_self;have h2:=size_le r fun x hx=>h x (mem_cons_of_mem _ hx);show d.members.length * sizeN r<=_;rw[List.length_cons,Nat.pow_succ,mul_comm];exact Nat.mul_le_mul h2 h1
theorem pow_le {n:Nat} (h:n<=4):12 ^ n<=20736:=by have:(12:Nat) ^ n<=12 ^ 4:=Nat.pow_le_pow_right (by omega) h;simpa using this
theorem OutOk.sizeN {o:List Dim} (ok:OutOk o):zeO o=(sizeN o:Nat)∧Ab.sizeN o<=20736:=by have h1:=size_le o fun d hd=>(ok.dims d hd).len.2;have h2:=pow_le ok.len.2;refine ⟨?_,by omega⟩;have:=size_fold o 1 (fun d hd=>(ok.dims d hd).len.1) (by omega);rw[Nat.one_mul] at this;exact this
theorem wC {o:List Dim} (ok:OutOk o) (n:Nat):Fit o (qn o n).1:=by
 have hp:∀ d∈o,0 < d.members.length:=fun d hd=>(ok.dims d hd).len.1;refine ⟨zhp o n, ?_⟩;clear ok
 induction o with
 | nil=>intro i m d h;simp[qn] at h
 | cons d r ih =>
  intro i m e hm he;cases i with
  | zero =>simp only[qn,List.getElem?_cons_zero,Option.some.injEq] at hm he;subst hm;subst he;have:=mod_lt (qn r n).2 (hp d mem_cons_self);omega
  | succ i =>simp only[qn,List.getElem?_cons_succ] at hm he;exact ih (fun x hx=>hp x (mem_cons_of_mem _ hx)) i m e hm he
def jG:List Dim->List Int->Nat
 | _ :: o,m :: p=>m.toNat * sizeN o+jG o p
 | _,_=>0
theorem Fit.tail {d:Dim} {o:List Dim} {m:Int} {p:List Int} (h:Fit (d :: o) (m :: p)):(0<=m∧m < d.members.length)∧Fit o p :=
 ⟨h.mem 0 m d rfl rfl,by simpa using h.len,fun i m' d' hm hd=>h.mem (i+1) m' d' (by simpa using hm) (by simpa using hd)⟩
theorem zbW:∀ {o:List Dim} {p:List Int},Fit o p->jG o p < sizeN o
 | [],[],_=>by simp[jG,sizeN]
 | [],_ :: _,h=>by have:=h.len;simp at this
 | _ :: _,[],h=>by have:=h.len;simp at this
 | d :: o,m :: p,h=>by
  obtain ⟨h1,h2⟩:=h.tail;have:=zbW h2;have e:sizeN (d :: o)=d.members.length * sizeN o:=rfl;have h3:(m.toNat+1) * sizeN o<=d.members.length * sizeN o:=Nat.mul_le_mul_right _ (by omega);rw[add_mul] at h3;simp only[jG,e];omega
theorem zho:∀ {o:List Dim},(∀ d∈o,0 < d.members.length)->∀ {n:Nat},n < sizeN o->jG o (qn o n).1=n
 | [],_,n,h=>by simp[sizeN] at h;subst h;rfl
 | d :: o,hp,n,h=>by
  have hpo:∀ d∈o,0 < d.members.length:=fun x hx=>hp x (mem_cons_of_mem _ hx);have e:sizeN (d :: o)=d.members.length * sizeN o:=rfl;have hs:0 < sizeN o:=by
   cases hq:sizeN o with
   | zero=>rw[e,hq] at h;simp at h
   | succ=>omega
  have h1:n=(n / sizeN o) * sizeN o+n % sizeN o:=by rw[mul_comm];exact (Nat.div_add_mod n (sizeN o)).symm
  have h2:n % sizeN o < sizeN o:=mod_lt _ hs;have h3:n / sizeN o < d.members.length:=Nat.div_lt_of_lt_mul (by rw[mul_comm];exact e ▸ h);have hd:=digs_size o hpo (n / sizeN o) (n % sizeN o) h2;rw[← h1] at hd;simp only[qn,hd,jG,toNat_natCast,Nat.mod_eq_of_lt h3,zho hpo h2];exact h1.symm
theorem zg4:∀ (o:List Dim) (p:List Int) (n:Nat),(∀ d∈o,0 < d.members.length)->Fit o p->(n+1) * sizeN o<=1000000000 ->
  (p.zip o).foldl (fun n x=>wi (wi (n * (x.2.members.length:Int))+x.1)) (n:Int)=((n * sizeN o+jG o p:Nat):Int)
 | [],[],n,_,_,_=>by simp[sizeN,jG]
 | [],_ :: _,_,_,h,_=>by have:=h.len;simp at this
 | _ :: _,[],_,_,h,_=>by have:=h.len;simp at this
 | d :: o,m :: p,n,hp,h,hb=>by
  obtain ⟨h1,h2⟩:=h.tail;have hpo:∀ d∈o,0 < d.members.length:=fun x hx=>hp x (mem_cons_of_mem _ hx);have e:sizeN (d :: o)=d.members.length * sizeN o:=rfl;have hpos:0 < sizeN o:=by have:=zbW h2;omega
  have hb1:(n * d.members.length+m.toNat+1) * sizeN o<=(n+1) * (d.members.length * sizeN o):=(by rw[← mul_assoc];refine Nat.mul_le_mul_right _ ?_;rw[add_mul,Nat.one_mul];omega);rw[e] at hb;have hle:n * d.members.length+m.toNat+1<=1000000000:=le_trans (Nat.le_mul_of_pos_right _ hpos) (le_trans hb1 hb);have ih:=zg4 o p (n * d.members.length+m.toNat) hpo h2 (le_trans hb1 hb);simp only[List.zip_cons_cons,List.foldl_cons];have e1:wi ((n:Int) * ((d.members.length:Nat):Int))=((n * d.members.length:Nat):Int):=by
   have e0:(n:Int) * ((d.members.length:Nat):Int)=((n * d.members.length:Nat):Int):=by simp
   rw[e0,j9 (by omega) (by omega)]
  have e2:wi (((n * d.members.length:Nat):Int)+m)=((n * d.members.length+m.toNat:Nat):Int):=(by rw[j9 (by omega) (by omega)];omega);rw[e1,e2,ih];congr 1;simp only[jG,e];rw[add_mul,mul_assoc,Nat.add_assoc]
theorem zgd {o:List Dim} {p:List Int} (ok:OutOk o) (h:Fit o p):numW o p=((jG o p:Nat):Int):=by have hp:∀ d∈o,0 < d.members.length:=fun d hd=>(ok.dims d hd).len.1;have hs:=ok.sizeN.2;have:=zg4 o p 0 hp h (by omega);simpa[numW] using this
end
end Ab
