import Derived.Test.YtchidgkpkhloeaaGreatDoorH9
open List (getElem?_eq_getElem getElem?_zip_eq_some getElem_mem length_zip mem_cons_of_mem mem_cons_self mem_iff_getElem?)
open Nat (add_mul le_trans min_self mod_lt mul_assoc mul_comm)
open Int (toNat_natCast)
set_option linter.unusedVariables false
set_option linter.unusedSimpArgs false
namespace Ab
open Go
section
def qq:List Dim->Nat->List Int×Nat
 | [],n=>([],n)
 | d :: r,n=>(((((qq r n).2 % d.members.length:Nat)):Int) :: (qq r n).1,(qq r n).2 / d.members.length)
theorem zjb (o:List Dim) (n:Nat):(qq o n).1.length=o.length:=by
 induction o with
 | nil=>rfl
 | cons d r ih=>simp[qq,ih]
theorem digs_le (o:List Dim) (n:Nat):(qq o n).2<=n:=by
 induction o with
 | nil=>exact Nat.le_refl _
 | cons d r ih=>simp only[qq];exact le_trans (Nat.div_le_self _ _) ih
theorem set_rep (k:Nat) (x:Int) (l:List Int):(List.replicate (k+1) (0:Int)++l).set k x=List.replicate k 0++x :: l:=by
 induction k with
 | zero=>rfl
 | succ k ih=>rw[List.replicate_succ,List.cons_append,List.set_cons_succ,ih];rfl
theorem P69_eq (o:List Dim) (n:Nat) (hl:o.length<=1000) (hn:n<=1000000000) (hp:∀ d∈o,0 < d.members.length∧d.members.length<=1000000):P69 o (n:Int)=some (qq o n).1:=by
 have hck:(0:Int)<=(o.length:Int)∧(o.length:Int)<=(o.length:Int)∧(o.length:Int)<=zH:=by unfold zH;omega
 have hs:=zU (B:=zhf o) (fun k=>((((qq (o.drop (o.length - k)) n).2:Nat):Int),((o.length:Int) - k - 1,List.replicate (o.length - k) (0:Int)++(qq (o.drop (o.length - k)) n).1))) o.length (fun k hk=>by
  obtain ⟨j,hj⟩:∃ j,o.length - k=j+1:=⟨o.length - k - 1,by omega⟩;have hj2:o.length - (k+1)=j:=by omega
  have hjl:j < o.length:=by omega
  have hd:=getElem?_eq_getElem hjl;have hdrop:o.drop j=o[j] :: o.drop (j+1):=List.drop_eq_getElem_cons hjl;have hpos:=hp o[j] (getElem_mem hjl);have hle:=digs_le (o.drop (j+1)) n;have ei:(o.length:Int) - (k:Int) - 1=(j:Int):=by omega
  have ei2:(o.length:Int) - ((k+1:Nat):Int) - 1=(j:Int) - 1:=by omega
  have h0:(0:Int)<=(j:Int):=by omega
  have hne:¬ ((o[j].members.length:Nat):Int)=0:=by omega
  simp only[hj,hj2,ei,ei2,hdrop,qq];have hlen:(List.replicate (j+1) (0:Int)++(qq (o.drop (j+1)) n).1).length=o.length:=by simp[zjb];omega
  have hck2:(0:Int)<=(j:Int)∧(j:Int) < (((List.replicate (j+1) (0:Int)++(qq (o.drop (j+1)) n).1).length:Nat):Int):=by rw[hlen];omega
  have hget:(List.replicate (j+1) (0:Int)++(qq (o.drop (j+1)) n).1)[j]? = some 0:=(by rw[List.getElem?_append_left (by simp),List.getElem?_replicate];simp);simp only[zhf,h0,decide_true,zl,zh,hd,zj,hne,not_false_eq_true,ck_true,hck2.2,true_and,toNat_natCast,hget,set_rep,yG];have ediv:Int.tdiv (((qq (o.drop (j+1)) n).2:Nat):Int) ((o[j].members.length:Nat):Int)=(((qq (o.drop (j+1)) n).2 / o[j].members.length:Nat):Int):=rfl;have emod:Int.tmod (((qq (o.drop (j+1)) n).2:Nat):Int) ((o[j].members.length:Nat):Int)=(((qq (o.drop (j+1)) n).2 % o[j].members.length:Nat):Int):=rfl;have hdl:=Nat.div_le_self (qq (o.drop (j+1)) n).2 o[j].members.length;rw[ediv,emod];clear ediv emod;generalize (qq (o.drop (j+1)) n).2 / o[j].members.length=q at hdl ⊢;rw[jv (n:=(q:Int)) (by omega) (by omega),jv (by omega) (by omega)])
 have e0:o.drop (o.length - 0)=[]:=by simp
 have e1:o.drop (o.length - o.length)=o:=by simp
 simp only[e0,e1] at hs;simp only[Nat.sub_self,List.replicate_zero,List.nil_append,Nat.sub_zero,qq,List.append_nil] at hs;have hs2:lpO (zhf o) ((n:Int),((o.length:Int) - 1,List.replicate o.length (0:Int)))=some (.inl ((((qq o n).2:Nat):Int),(-1,(qq o n).1))):=by
  have ea:(o.length:Int) - ((0:Nat):Int) - 1=(o.length:Int) - 1:=by omega
  have eb:(o.length:Int) - ((o.length:Nat):Int) - 1 = -1:=by omega
  rw[ea,eb] at hs;exact hs.trans (qw (by simp[zhf]))
 simp only[P69,S69,zw hck,jh,toNat_natCast,List.length_replicate];rw[jv (by omega) (by omega),hs2];rfl
def badM (x:Int×Dim):Bool:=decide (x.1 < 0) || decide ((x.2.members.length:Int)<=x.1)
def ja (o:List Dim) (p:List Int):Int:=if ¬ p.length=o.length then 3 else if (p.zip o).any badM=true then 1 else 0
structure Fit (o:List Dim) (p:List Int):Prop where
 len:p.length=o.length
 mem:∀ (i:Nat) (m:Int) (d:Dim),p[i]? = some m->o[i]? = some d->0<=m∧m < d.members.length
theorem q9 {o:List Dim} {p:List Int}:ja o p=0↔Fit o p:=by
 unfold ja;by_cases h1:p.length=o.length
 ·rw[if_neg (by simpa using h1)];by_cases h2:(p.zip o).any badM=true
  ·rw[if_pos h2];refine ⟨fun e=>(by cases e),fun h => ?_⟩;obtain ⟨x,hx,hb⟩:=List.any_eq_true.1 h2;obtain ⟨i,hi⟩:=mem_iff_getElem?.1 hx;obtain ⟨e1,e2⟩:=getElem?_zip_eq_some.1 hi;have:=h.mem i _ _ e1 e2;simp only[badM,Bool.or_eq_true,decide_eq_true_eq] at hb;omega
  ·rw[if_neg h2];refine ⟨fun _=>⟨h1,fun i m d hm hd => ?_⟩,fun _=>rfl⟩;have hx:(m,d)∈p.zip o:=mem_iff_getElem?.2 ⟨i,getElem?_zip_eq_some.2 ⟨hm,hd⟩⟩;have:¬ badM (m,d)=true:=fun e=>h2 (List.any_eq_true.2 ⟨_,hx,e⟩);simp only[badM,Bool.or_eq_true,decide_eq_true_eq] at this;omega
 ·rw[if_pos h1];exact ⟨fun e=>(by cases e),fun h=>absurd h.len h1⟩
theorem zeF (o:List Dim) (p:List Int) (h:p.length<=9223372036854775807):P58 o p=some (zm (ja o p)):=by
 simp only[P58,S58];unfold ja;by_cases h1:p.length=o.length
 ·have e:((p.length:Nat):Int)=((o.length:Nat):Int):=by omega
  rw[if_neg (by simpa using h1)];simp only[e,not_true,decide_false,zg];rw[zcI badM (p.zip o) (Err.no 1) Err.nil (fun i y hy => ?_) (by rw[length_zip,← h1,min_self];simp[S58_L1])]
  ·cases (p.zip o).any badM<;>simp[zm]
  ·obtain ⟨e1,e2⟩:=getElem?_zip_eq_some.1 hy;have hi:=(List.getElem?_eq_some_iff.1 e1).1;have e:((i:Nat):Int) < ((p.length:Nat):Int):=by omega
   simp only[S58_L1,e,decide_true,zl,zh,e1,e2,zj,badM];rw[jv (by omega) (by omega)];by_cases c1:y.1 < 0
   ·simp[c1]
   ·by_cases c2:(y.2.members.length:Int)<=y.1<;>simp[c1,c2]
 ·have e:¬ ((p.length:Nat):Int)=((o.length:Nat):Int):=by omega
  rw[if_pos h1];simp[e,zm]
def jE (o:List Dim) (p:List Int):Bool:=(p.zip o).all fun x=>zdf x.2.members x.1.toNat
theorem all_any {α:Type} (f:α->Bool) (l:List α):l.all f = !l.any fun x => !f x:=by
 induction l with
 | nil=>rfl
 | cons a l ih=>simp only[List.all_cons,List.any_cons,ih];cases f a<;>rfl
theorem zjv {o:List Dim} {p:List Int} (hf:Fit o p) (h:p.length<=9223372036854775807) (hd:∀ d∈o,d.members.length<=1000):P59 o p=some (jE o p):=by
 simp only[P59,S59];rw[zcI (fun x:Int×Dim => !zdf x.2.members x.1.toNat) (p.zip o) false true (fun i y hy => ?_) (by rw[length_zip,← hf.len,min_self];simp[S59_L1])]
 ·rw[jE,all_any];cases (p.zip o).any fun x => !zdf x.2.members x.1.toNat<;>rfl
 ·obtain ⟨e1,e2⟩:=getElem?_zip_eq_some.1 hy;have hi:=(List.getElem?_eq_some_iff.1 e1).1;have e:((i:Nat):Int) < ((p.length:Nat):Int):=by omega
  have hm:=hf.mem i _ _ e1 e2;have hl:=hd _ (List.mem_of_getElem? e2);obtain ⟨k,hk⟩:=Int.eq_ofNat_of_zero_le hm.1;rw[hk] at hm e1;simp only[S59_L1,e,decide_true,zl,zh,e1,e2,zj,hk,P44_eq hl (by omega:k < y.2.members.length),toNat_natCast];rw[jv (by omega) (by omega)];cases zdf y.2.members k<;>rfl
def numW (o:List Dim) (p:List Int):Int:=(p.zip o).foldl (fun n x=>wi (wi (n * (x.2.members.length:Int))+x.1)) 0
theorem zhh {o:List Dim} {p:List Int} (hl:p.length=o.length) (h:p.length<=9223372036854775807):P49 o p=some (numW o p):=by
 have hz:(p.zip o).length=p.length:=by rw[length_zip,← hl,min_self]
 have hs:=zU (B:=zhg o p) (fun i=>(((p.zip o).take i).foldl (fun n x=>wi (wi (n * (x.2.members.length:Int))+x.1)) 0,(i:Int))) p.length (fun i hi=>by
  have e:((i:Nat):Int) < ((p.length:Nat):Int):=by omega
  have hx:(p.zip o)[i]? = some (p[i],o[i]'(by omega)):=getElem?_zip_eq_some.2 ⟨getElem?_eq_getElem hi,getElem?_eq_getElem (by omega)⟩;simp only[zhg,e,decide_true,zl,zh,getElem?_eq_getElem hi,getElem?_eq_getElem (by omega:i < o.length),zj,yG];rw[jv (n:=(i:Int)+1) (by omega) (by omega),yU _ _ _ hx];rfl)
 have ht:(p.zip o).take p.length=p.zip o:=by rw[← hz,List.take_length]
 rw[ht] at hs;have hs:lpO (zhg o p) (0,0)=some (.inl (numW o p,(p.length:Int))):=hs.trans (qw (by simp[zhg,numW]));simp only[P49,S49,jh,hs,q8]
end
section
def cmpL:List Int->List Int->Int
 | [],[]=>0
 | [],_ :: _ => -1
 | _ :: _,[]=>1
 | x :: a,y :: b=>if x < y then -1 else if y < x then 1 else cmpL a b
theorem P81_eq (a b:Int):P81 a b=some (if a < b then -1 else if b < a then 1 else 0):=by
 have e:∀ n:Int,P84 n=some false:=fun n=>by simp[P84,S84]
 simp only[P81,S81,e,zj,zg];by_cases h1:a < b
 ·simp[h1]
 ·by_cases h2:b < a<;>simp[h1,h2]
theorem cmp_loop (a b:List Int) (h:a.length<=9223372036854775807):∀ (n i:Nat),a.length - i=n->i<=a.length->i<=b.length->jn (lpO (zeC P81 a b) (i:Int)) (fun _=>br (decide (((List.length a:Nat):Int) < ((List.length b:Nat):Int))) (some (-1:Int)) (some (0:Int)))=some (cmpL (a.drop i) (b.drop i)):=by
 intro n
 induction n with
 | zero =>
  intro i hi hl hb;obtain rfl:i=a.length:=by omega
  rw[qw (y:=(a.length:Int)) (by simp[zeC])];rw[List.drop_length];simp only[q8];by_cases hlt:a.length < b.length
  ·have e:((a.length:Nat):Int) < ((b.length:Nat):Int):=by omega
   rw[List.drop_eq_getElem_cons hlt];simp[e,cmpL]
  ·have e:¬ ((a.length:Nat):Int) < ((b.length:Nat):Int):=by omega
   rw[List.drop_eq_nil_of_le (by omega)];simp[e,cmpL]
 | succ n ih =>
  intro i hi hl hb;have hia:i < a.length:=by omega
  have e:((i:Nat):Int) < ((a.length:Nat):Int):=by omega
  rw[List.drop_eq_getElem_cons hia];by_cases hib:i < b.length
  ·have e2:¬ ((b.length:Nat):Int)<=((i:Nat):Int):=by omega
   rw[List.drop_eq_getElem_cons hib];simp only[cmpL];have hB:zeC P81 a b (i:Int)=some (if a[i] < b[i] then .fin (-1) else if b[i] < a[i] then .fin 1 else .nx ((i:Int)+1)):=by
    simp only[zeC,e,e2,decide_true,decide_false,zl,zg,zh,getElem?_eq_getElem hia,getElem?_eq_getElem hib,zj,P81_eq];rw[jv (by omega) (by omega)];by_cases c1:a[i] < b[i]
    ·simp[c1]
    ·by_cases c2:b[i] < a[i]<;>simp[c1,c2]
   by_cases c1:a[i] < b[i]
   ·rw[if_pos c1] at hB ⊢;rw[zaQ hB];rfl
   ·rw[if_neg c1] at hB ⊢;by_cases c2:b[i] < a[i]
    ·rw[if_pos c2] at hB ⊢;rw[zaQ hB];rfl
    ·rw[if_neg c2] at hB ⊢;rw[zci hB];exact ih (i+1) (by omega) (by omega) (by omega)
  ·have e2:((b.length:Nat):Int)<=((i:Nat):Int):=by omega
   rw[List.drop_eq_nil_of_le (by omega:b.length<=i),zaQ (a:=(1:Int)) (by simp[zeC,e,e2,zh,hia])];rfl
theorem P74_eq (a b:List Int) (h:a.length<=9223372036854775807):P74 a b=some (cmpL a b):=by simp only[P74,S74,jh];exact cmp_loop a b h a.length 0 (by omega) (Nat.zero_le _) (Nat.zero_le _)
theorem zju (a b:Entry) (h:a.at_.length<=9223372036854775807):P61 a b=some (cmpL a.at_ b.at_):=by simp[P61,S61,P74_eq _ _ h]
def zaH (n:Int):Bool:=decide (-1000000<=n) && decide (n<=1000000)
theorem P60_eq (n:Int):P60 n=some (zaH n):=by simp[P60,S60,zaH]
def zcn (o:List Dim) (l:List Entry) (i:Nat) (e:Entry):Int :=
 if ¬ ja o e.at_=0 then ja o e.at_ else if jE o e.at_=false then 6 else if zaH e.n=false then 1
 else match i with | 0=>0 | j+1=>match l[j]? with | some e0=>if 0<=cmpL e0.at_ e.at_ then 7 else 0 | none=>0
def zfs (o:List Dim) (l:List Entry):Int :=
 if ¬ (qP o).2.2=0 then (qP o).2.2 else match (List.range l.length).findSome? fun i=>match l[i]? with | some e=>if zcn o l i e=0 then none else some (zcn o l i e) | none=>none with
 | some e=>e
 | none=>0
theorem P27_eq (o:List Dim) (l:List Entry) (hl:Lst Entry.gd l):P27 o l=some (zm (zfs o l)):=by
 simp only[P27,S27,P51_eq,zj,zB];unfold zfs;by_cases h0:(qP o).2.2=0
 case neg=>simp[h0]
 have ok:=zay.1 h0;have hdm:∀ d∈o,d.members.length<=1000:=fun d hd=>by have:=(ok.dims d hd).len;omega
 have hlen:=hl.1;rw[if_neg (by simpa using h0)];simp only[h0,decide_true,Bool.not_true,zg];have:=w7 (B:=zjq P58 P59 P60 P61 o l) l.length (fun i=>match l[i]? with
  | some e=>if zcn o l i e=0 then none else some (zm (zcn o l i e))
  | none=>none) (fun i hi=>by
   have e:((i:Nat):Int) < ((l.length:Nat):Int):=by omega
   have hm:=getElem?_eq_getElem hi;have hg:=hl.2 _ (getElem_mem hi);generalize l[i]=x at hm hg;have hat:x.at_.length<=9223372036854775807:=hg.1.1;simp only[zjq,e,decide_true,zl,zh,hm,zj,zeF o _ hat,zB];rw[jv (n:=(i:Int)+1) (by omega) (by omega)];by_cases c1:ja o x.at_=0
   case neg =>
    have hE:zcn o l i x=ja o x.at_:=by unfold zcn;rw[if_pos c1]
    simp[hE,c1]
   have hf:=q9.1 c1;have c1':¬ ¬ ja o x.at_=0:=fun h=>h c1;simp only[c1,decide_true,Bool.not_true,zg,zjv hf hat hdm,zj,P60_eq];cases c2:jE o x.at_ with
   | false =>
    have hE:zcn o l i x=6:=by unfold zcn;rw[if_neg c1',if_pos c2]
    simp[hE,zm]
   | true =>
    have c2':¬ jE o x.at_=false:=by rw[c2];simp
    cases c3:zaH x.n with
    | false =>
     have hE:zcn o l i x=1:=by unfold zcn;rw[if_neg c1',if_neg c2',if_pos c3]
     simp[hE,zm]
    | true =>
     have c3':¬ zaH x.n=false:=by rw[c3];simp
     simp only[Bool.not_true,zg];cases i with
     | zero =>
      have hE:zcn o l 0 x=0:=by unfold zcn;rw[if_neg c1',if_neg c2',if_neg c3']
      simp[hE]
     | succ j =>
      have hj:j < l.length:=by omega
      have ej:=getElem?_eq_getElem hj;have hgj:=hl.2 _ (getElem_mem hj);have hE:zcn o l (j+1) x=if 0<=cmpL l[j].at_ x.at_ then 7 else 0:=by unfold zcn;rw[if_neg c1',if_neg c2',if_neg c3'];simp only[ej]
      have e0:(0:Int) < ((j+1:Nat):Int):=by omega
      have e1:((j+1:Nat):Int) - 1=(j:Int):=by omega
      simp only[e0,decide_true,zl,e1];rw[jv (n:=(j:Int)) (by omega) (by omega)];simp only[zh,ej,zj,zju _ _ hgj.1.1,hE];by_cases c4:0<=cmpL l[j].at_ x.at_<;>simp[c4,zm]) (by simp[zjq])
 unfold lp;rw[this];have e2:((List.range l.length).findSome? fun i=>match l[i]? with
  | some e=>if zcn o l i e=0 then none else some (zm (zcn o l i e))
  | none=>none)=((List.range l.length).findSome? fun i=>match l[i]? with | some e=>if zcn o l i e=0 then none else some (zcn o l i e) | none=>none).map zm:=by
  rw[← z6];congr 1;funext i;cases l[i]? with
  | none=>rfl
  | some m=>by_cases h:zcn o l i m=0<;>simp[h]
 rw[e2];cases ((List.range l.length).findSome? fun i=>match l[i]? with | some e=>if zcn o l i e=0 then none else some (zcn o l i e) | none=>none) with
 | none=>simp[zm]
 | some r=>rfl
structure EntsOk (o:List Dim) (l:List Entry):Prop where
 out:OutOk o
 fit:∀ e∈l,Fit o e.at_
 leaf:∀ e∈l,jE o e.at_=true
 val:∀ e∈l,zaH e.n=true
 rise:∀ (i:Nat) (a b:Entry),l[i]? = some a->l[i+1]? = some b->cmpL a.at_ b.at_ < 0
theorem zfr {o:List Dim} {l:List Entry}:zfs o l=0↔EntsOk o l:=by
 unfold zfs;by_cases h0:(qP o).2.2=0
 case neg=>rw[if_pos h0];exact ⟨fun e=>absurd e h0,fun e=>absurd (zay.2 e.out) h0⟩
 rw[if_neg (by simpa using h0)];cases hm:(List.range l.length).findSome? fun i=>match l[i]? with | some e=>if zcn o l i e=0 then none else some (zcn o l i e) | none=>none with
 | some r =>
  obtain ⟨i,hi,hr⟩:=List.exists_of_findSome?_eq_some hm;have hi:i < l.length:=by simpa using hi
  rw[getElem?_eq_getElem hi] at hr;simp only at hr;split at hr
  ·cases hr
  ·rename_i hne;cases hr;refine ⟨fun h=>absurd h hne,fun h=>absurd ?_ hne⟩;have hmem:=getElem_mem hi;unfold zcn;rw[if_neg (by simpa using q9.2 (h.fit _ hmem)),if_neg (by simp[h.leaf _ hmem]),if_neg (by simp[h.val _ hmem])];cases i with
   | zero=>rfl
   | succ j =>simp only;rw[getElem?_eq_getElem (by omega:j < l.length)];have:=h.rise j _ _ (getElem?_eq_getElem (by omega:j < l.length)) (getElem?_eq_getElem hi);simp only;rw[if_neg (by omega)]
 | none =>
  have hn:=List.findSome?_eq_none_iff.1 hm;have each:∀ (i:Nat) (e:Entry),l[i]? = some e->zcn o l i e=0:=by
   intro i e hi;have hi':=(List.getElem?_eq_some_iff.1 hi).1;have:=hn i (by simpa using hi');rw[hi] at this;simp only at this;split at this
   ·assumption
   ·cases this
  have parts:∀ (i:Nat) (e:Entry),l[i]? = some e->ja o e.at_=0∧jE o e.at_=true∧zaH e.n=true∧∀ j e0,i=j+1->l[j]? = some e0->cmpL e0.at_ e.at_ < 0:=by
   intro i e hi;have:=each i e hi;unfold zcn at this;by_cases c1:ja o e.at_=0
   case neg=>rw[if_pos c1] at this;exact absurd this c1
   rw[if_neg (by simpa using c1)] at this;by_cases c2:jE o e.at_=false
   ·rw[if_pos c2] at this;cases this
   rw[if_neg c2] at this;by_cases c3:zaH e.n=false
   ·rw[if_pos c3] at this;cases this
   rw[if_neg c3] at this;refine ⟨c1,by simpa using c2,by simpa using c3,fun j e0 hj hj0 => ?_⟩;subst hj;simp only[hj0] at this;split at this
   ·cases this
   ·omega
  refine ⟨fun _=>⟨zay.1 h0,fun e he => ?_,fun e he => ?_,fun e he => ?_,fun i a b ha hb=>(parts _ _ hb).2.2.2 i a rfl ha⟩,fun _=>rfl⟩
  ·obtain ⟨i,hi⟩:=mem_iff_getElem?.1 he;exact q9.1 (parts i e hi).1
  ·obtain ⟨i,hi⟩:=mem_iff_getElem?.1 he;exact (parts i e hi).2.1
  ·obtain ⟨i,hi⟩:=mem_iff_getElem?.1 he;exact (parts i e hi).2.2.1
end
section
def sizeN (o:List Dim):Nat:=o.foldr (fun d n=>d.members.length * n) 1
theorem zg1 (o:List Dim) (hp:∀ d∈o,0 < d.members.length):∀ (q s:Nat),s < sizeN o->qq o (q * sizeN o+s)=((qq o s).1,q):=by
 induction o with
 | nil=>intro q s hs;simp[sizeN] at hs;subst hs;simp[qq,sizeN]
 | cons d r ih =>
  intro q s hs;have hpr:∀ x∈r,0 < x.members.length:=fun x hx=>hp x (mem_cons_of_mem _ hx);have hd:=hp d mem_cons_self;have hS:sizeN (d :: r)=d.members.length * sizeN r:=rfl;have hSr:0 < sizeN r:=by
   cases h:sizeN r with
   | zero=>rw[hS,h] at hs;simp at hs
   | succ=>omega
  rw[hS] at hs ⊢;have hs1:s=(s / sizeN r) * sizeN r+s % sizeN r:=by rw[mul_comm];exact (Nat.div_add_mod s (sizeN r)).symm
  have hs2:s % sizeN r < sizeN r:=mod_lt _ hSr;have hs3:s / sizeN r < d.members.length:=Nat.div_lt_of_lt_mul (by rw[mul_comm];exact hs);have e1:q * (d.members.length * sizeN r)+s=(q * d.members.length+s / sizeN r) * sizeN r+s % sizeN r:=(by rw[add_mul,mul_assoc,Nat.add_assoc];omega);have d1:=ih hpr (q * d.members.length+s / sizeN r) (s % sizeN r) hs2;have d2:=ih hpr (s / sizeN r) (s % sizeN r) hs2;rw[← e1] at d1;rw[← hs1] at d2;simp only[qq,d1,d2];rw[Nat.add_comm (q * d.members.length),Nat.add_mul_mod_self_right,Nat.mod_eq_of_lt hs3,Nat.add_mul_div_right _ _ hd,Nat.div_eq_of_lt hs3,Nat.zero_add]
def allIn {α:Type}:List (α->Bool)->List α->Bool
 | f :: fs,x :: xs=>f x && allIn fs xs
 | _,_=>true
end
section
theorem size_fold:∀ (o:List Dim) (n:Nat),(∀ d∈o,0 < d.members.length)->n * sizeN o<=1000000000->o.foldl (fun n d=>wi (n * ((d.members.length:Nat):Int))) (n:Int)=((n * sizeN o:Nat):Int)
 | [],n,_,_=>by simp[sizeN]
 | d :: r,n,hp,hb=>by
  have hS:sizeN (d :: r)=d.members.length * sizeN r:=rfl;have hpr:∀ x∈r,0 < x.members.length:=fun x hx=>hp x (mem_cons_of_mem _ hx);rw[hS,← mul_assoc] at hb;have hr:0 < sizeN r:=by
   clear hb hS hp
   induction r with
   | nil=>simp[sizeN]
   | cons a r ih =>have h1:=hpr a mem_cons_self;have h2:=ih fun x hx=>hpr x (mem_cons_of_mem _ hx);show 0 < a.members.length * sizeN r;exact Nat.mul_pos h1 h2
  have hb2:n * d.members.length<=1000000000:=le_trans (Nat.le_mul_of_pos_right _ hr) hb;have hw:wi ((n:Int) * ((d.members.length:Nat):Int))=((n * d.members.length:Nat):Int):=(by rw[← Int.natCast_mul,jv (by omega) (by omega)]);rw[List.foldl_cons,hw,size_fold r _ hpr hb,hS,← mul_assoc]
theorem size_le:∀ (o:List Dim),(∀ d∈o,d.members.length<=12)->sizeN o<=12 ^ o.length
 | [],_=>by simp[sizeN]
 | d :: r,h=>by
  have h1:=h d mem_cons_self;have h2:=size_le r fun x hx=>h x (mem_cons_of_mem _ hx);show d.members.length * sizeN r<=_;rw[List.length_cons,Nat.pow_succ,mul_comm];exact Nat.mul_le_mul h2 h1
theorem pow_le {n:Nat} (h:n<=4):12 ^ n<=20736:=by have:(12:Nat) ^ n<=12 ^ 4:=Nat.pow_le_pow_right (by omega) h;simpa using this
theorem OutOk.sizeN {o:List Dim} (ok:OutOk o):zgi o=(sizeN o:Nat)∧Ab.sizeN o<=20736:=by have h1:=size_le o fun d hd=>(ok.dims d hd).len.2;have h2:=pow_le ok.len.2;refine ⟨?_,by omega⟩;have:=size_fold o 1 (fun d hd=>(ok.dims d hd).len.1) (by omega);rw[Nat.one_mul] at this;exact this
theorem wt {o:List Dim} (ok:OutOk o) (n:Nat):Fit o (qq o n).1:=by
 have hp:∀ d∈o,0 < d.members.length:=fun d hd=>(ok.dims d hd).len.1;refine ⟨zjb o n, ?_⟩;clear ok
 induction o with
 | nil=>intro i m d h;simp[qq] at h
 | cons d r ih =>
  intro i m e hm he;cases i with
  | zero =>simp only[qq,List.getElem?_cons_zero,Option.some.injEq] at hm he;subst hm;subst he;have:=mod_lt (qq r n).2 (hp d mem_cons_self);omega
  | succ i =>simp only[qq,List.getElem?_cons_succ] at hm he;exact ih (fun x hx=>hp x (mem_cons_of_mem _ hx)) i m e hm he
def qA:List Dim->List Int->Nat
 | _ :: o,m :: p=>m.toNat * sizeN o+qA o p
 | _,_=>0
theorem Fit.tail {d:Dim} {o:List Dim} {m:Int} {p:List Int} (h:Fit (d :: o) (m :: p)):(0<=m∧m < d.members.length)∧Fit o p :=
 ⟨h.mem 0 m d rfl rfl,by simpa using h.len,fun i m' d' hm hd=>h.mem (i+1) m' d' (by simpa using hm) (by simpa using hd)⟩
theorem yp:∀ {o:List Dim} {p:List Int},Fit o p->qA o p < sizeN o
 | [],[],_=>by simp[qA,sizeN]
 | [],_ :: _,h=>by have:=h.len;simp at this
 | _ :: _,[],h=>by have:=h.len;simp at this
 | d :: o,m :: p,h=>by
  obtain ⟨h1,h2⟩:=h.tail;have:=yp h2;have e:sizeN (d :: o)=d.members.length * sizeN o:=rfl;have h3:(m.toNat+1) * sizeN o<=d.members.length * sizeN o:=Nat.mul_le_mul_right _ (by omega);rw[add_mul] at h3;simp only[qA,e];omega
theorem yq:∀ {o:List Dim} {p:List Int},(∀ d∈o,0 < d.members.length)->Fit o p->qq o (qA o p)=(p,0)
 | [],[],_,_=>rfl
 | [],_ :: _,_,h=>by have:=h.len;simp at this
 | _ :: _,[],_,h=>by have:=h.len;simp at this
 | d :: o,m :: p,hp,h=>by
  obtain ⟨h1,h2⟩:=h.tail;have hpo:∀ d∈o,0 < d.members.length:=fun x hx=>hp x (mem_cons_of_mem _ hx);have ih:=yq hpo h2;have hd:=zg1 o hpo m.toNat (qA o p) (yp h2);have hlt:m.toNat < d.members.length:=by omega
  simp only[qA,qq,hd,ih,Nat.mod_eq_of_lt hlt,Nat.div_eq_of_lt hlt];rw[Int.toNat_of_nonneg h1.1]
theorem zja:∀ {o:List Dim},(∀ d∈o,0 < d.members.length)->∀ {n:Nat},n < sizeN o->qA o (qq o n).1=n
 | [],_,n,h=>by simp[sizeN] at h;subst h;rfl
 | d :: o,hp,n,h=>by
  have hpo:∀ d∈o,0 < d.members.length:=fun x hx=>hp x (mem_cons_of_mem _ hx);have e:sizeN (d :: o)=d.members.length * sizeN o:=rfl;have hs:0 < sizeN o:=by
   cases hq:sizeN o with
   | zero=>rw[e,hq] at h;simp at h
   | succ=>omega
  have h1:n=(n / sizeN o) * sizeN o+n % sizeN o:=by rw[mul_comm];exact (Nat.div_add_mod n (sizeN o)).symm
  have h2:n % sizeN o < sizeN o:=mod_lt _ hs;have h3:n / sizeN o < d.members.length:=Nat.div_lt_of_lt_mul (by rw[mul_comm];exact e ▸ h);have hd:=zg1 o hpo (n / sizeN o) (n % sizeN o) h2;rw[← h1] at hd;simp only[qq,hd,qA,toNat_natCast,Nat.mod_eq_of_lt h3,zja hpo h2];exact h1.symm
theorem ziJ:∀ (o:List Dim) (p:List Int) (n:Nat),(∀ d∈o,0 < d.members.length)->Fit o p->(n+1) * sizeN o<=1000000000 ->
  (p.zip o).foldl (fun n x=>wi (wi (n * (x.2.members.length:Int))+x.1)) (n:Int)=((n * sizeN o+qA o p:Nat):Int)
 | [],[],n,_,_,_=>by simp[sizeN,qA]
 | [],_ :: _,_,_,h,_=>by have:=h.len;simp at this
 | _ :: _,[],_,_,h,_=>by have:=h.len;simp at this
 | d :: o,m :: p,n,hp,h,hb=>by
  obtain ⟨h1,h2⟩:=h.tail;have hpo:∀ d∈o,0 < d.members.length:=fun x hx=>hp x (mem_cons_of_mem _ hx);have e:sizeN (d :: o)=d.members.length * sizeN o:=rfl;have hpos:0 < sizeN o:=by have:=yp h2;omega
  have hb1:(n * d.members.length+m.toNat+1) * sizeN o<=(n+1) * (d.members.length * sizeN o):=(by rw[← mul_assoc];refine Nat.mul_le_mul_right _ ?_;rw[add_mul,Nat.one_mul];omega);rw[e] at hb;have hle:n * d.members.length+m.toNat+1<=1000000000:=le_trans (Nat.le_mul_of_pos_right _ hpos) (le_trans hb1 hb);have ih:=ziJ o p (n * d.members.length+m.toNat) hpo h2 (le_trans hb1 hb);simp only[List.zip_cons_cons,List.foldl_cons];have e1:wi ((n:Int) * ((d.members.length:Nat):Int))=((n * d.members.length:Nat):Int):=by
   have e0:(n:Int) * ((d.members.length:Nat):Int)=((n * d.members.length:Nat):Int):=by simp
   rw[e0,jv (by omega) (by omega)]
  have e2:wi (((n * d.members.length:Nat):Int)+m)=((n * d.members.length+m.toNat:Nat):Int):=(by rw[jv (by omega) (by omega)];omega);rw[e1,e2,ih];congr 1;simp only[qA,e];rw[add_mul,mul_assoc,Nat.add_assoc]
theorem zc5 {o:List Dim} {p:List Int} (ok:OutOk o) (h:Fit o p):numW o p=((qA o p:Nat):Int):=by have hp:∀ d∈o,0 < d.members.length:=fun d hd=>(ok.dims d hd).len.1;have hs:=ok.sizeN.2;have:=ziJ o p 0 hp h (by omega);simpa[numW] using this
end
end Ab
