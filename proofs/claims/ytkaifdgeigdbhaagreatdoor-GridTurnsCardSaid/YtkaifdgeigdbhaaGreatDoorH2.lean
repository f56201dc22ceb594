import Derived.Test.YtkaifdgeigdbhaaGreatDoorH9
open List (getElem?_eq_getElem getElem?_zip_eq_some getElem_mem length_zip mem_cons_of_mem mem_cons_self mem_iff_getElem?)
open Nat (add_mul le_trans min_self mul_assoc mul_comm)
set_option linter.unusedVariables false
set_option linter.unusedSimpArgs false
namespace Ab
open Go
section
def zdt:List Dim->Nat->List Int×Nat
 | [],n=>([],n)
 | d :: r,n=>(((((zdt r n).2 % d.members.length:Nat)):Int) :: (zdt r n).1,(zdt r n).2 / d.members.length)
theorem digs_len (o:List Dim) (n:Nat):(zdt o n).1.length=o.length:=by
 induction o with
 | nil=>rfl
 | cons d r ih=>simp[zdt,ih]
def badM (x:Int×Dim):Bool:=decide (x.1 < 0) || decide ((x.2.members.length:Int)<=x.1)
def yx (o:List Dim) (p:List Int):Int:=if ¬ p.length=o.length then 3 else if (p.zip o).any badM=true then 1 else 0
structure Fit (o:List Dim) (p:List Int):Prop where
 len:p.length=o.length
 mem:∀ (i:Nat) (m:Int) (d:Dim),p[i]? = some m->o[i]? = some d->0<=m∧m < d.members.length
theorem zam {o:List Dim} {p:List Int}:yx o p=0↔Fit o p:=by
 unfold yx;by_cases h1:p.length=o.length
 ·rw[if_neg (by simpa using h1)];by_cases h2:(p.zip o).any badM=true
  ·rw[if_pos h2];refine ⟨fun e=>(by cases e),fun h => ?_⟩;obtain ⟨x,hx,hb⟩:=List.any_eq_true.1 h2;obtain ⟨i,hi⟩:=mem_iff_getElem?.1 hx;obtain ⟨e1,e2⟩:=getElem?_zip_eq_some.1 hi;have:=h.mem i _ _ e1 e2;simp only[badM,Bool.or_eq_true,decide_eq_true_eq] at hb;omega
  ·rw[if_neg h2];refine ⟨fun _=>⟨h1,fun i m d hm hd => ?_⟩,fun _=>rfl⟩;have hx:(m,d)∈p.zip o:=mem_iff_getElem?.2 ⟨i,getElem?_zip_eq_some.2 ⟨hm,hd⟩⟩;have:¬ badM (m,d)=true:=fun e=>h2 (List.any_eq_true.2 ⟨_,hx,e⟩);simp only[badM,Bool.or_eq_true,decide_eq_true_eq] at this;omega
 ·rw[if_pos h1];exact ⟨fun e=>(by cases e),fun h=>absurd h.len h1⟩
theorem zdd (o:List Dim) (p:List Int) (h:p.length<=9223372036854775807):P58 o p=some (zq (yx o p)):=by
 simp only[P58,S58];unfold yx;by_cases h1:p.length=o.length
 ·have e:((p.length:Nat):Int)=((o.length:Nat):Int):=by omega
  rw[if_neg (by simpa using h1)];simp only[e,not_true,decide_false,zg];rw[zbZ badM (p.zip o) (Err.no 1) Err.nil (fun i y hy => ?_) (by rw[length_zip,← h1,min_self];simp[S58_L1])]
  ·cases (p.zip o).any badM<;>simp[zq]
  ·obtain ⟨e1,e2⟩:=getElem?_zip_eq_some.1 hy;have hi:=(List.getElem?_eq_some_iff.1 e1).1;have e:((i:Nat):Int) < ((p.length:Nat):Int):=by omega
   simp only[S58_L1,e,decide_true,zo,zh,e1,e2,zl,badM];rw[ju (by omega) (by omega)];by_cases c1:y.1 < 0
   ·simp[c1]
   ·by_cases c2:(y.2.members.length:Int)<=y.1<;>simp[c1,c2]
 ·have e:¬ ((p.length:Nat):Int)=((o.length:Nat):Int):=by omega
  rw[if_pos h1];simp[e,zq]
def zfT (o:List Dim) (p:List Int):Bool:=(p.zip o).all fun x=>zcs x.2.members x.1.toNat
theorem all_any {α:Type} (f:α->Bool) (l:List α):l.all f = !l.any fun x => !f x:=by
 induction l with
 | nil=>rfl
 | cons a l ih=>simp only[List.all_cons,List.any_cons,ih];cases f a<;>rfl
theorem P59_eq {o:List Dim} {p:List Int} (hf:Fit o p) (h:p.length<=9223372036854775807) (hd:∀ d∈o,d.members.length<=1000):P59 o p=some (zfT o p):=by
 simp only[P59,S59];rw[zbZ (fun x:Int×Dim => !zcs x.2.members x.1.toNat) (p.zip o) false true (fun i y hy => ?_) (by rw[length_zip,← hf.len,min_self];simp[S59_L1])]
 ·rw[zfT,all_any];cases (p.zip o).any fun x => !zcs x.2.members x.1.toNat<;>rfl
 ·obtain ⟨e1,e2⟩:=getElem?_zip_eq_some.1 hy;have hi:=(List.getElem?_eq_some_iff.1 e1).1;have e:((i:Nat):Int) < ((p.length:Nat):Int):=by omega
  have hm:=hf.mem i _ _ e1 e2;have hl:=hd _ (List.mem_of_getElem? e2);obtain ⟨k,hk⟩:=Int.eq_ofNat_of_zero_le hm.1;rw[hk] at hm e1;simp only[S59_L1,e,decide_true,zo,zh,e1,e2,zl,hk,P44_eq hl (by omega:k < y.2.members.length),Int.toNat_natCast];rw[ju (by omega) (by omega)];cases zcs y.2.members k<;>rfl
def numW (o:List Dim) (p:List Int):Int:=(p.zip o).foldl (fun n x=>wi (wi (n * (x.2.members.length:Int))+x.1)) 0
theorem P49_eq {o:List Dim} {p:List Int} (hl:p.length=o.length) (h:p.length<=9223372036854775807):P49 o p=some (numW o p):=by
 have hz:(p.zip o).length=p.length:=by rw[length_zip,← hl,min_self]
 have hs:=zJ (B:=zgq o p) (fun i=>(((p.zip o).take i).foldl (fun n x=>wi (wi (n * (x.2.members.length:Int))+x.1)) 0,(i:Int))) p.length (fun i hi=>by
  have e:((i:Nat):Int) < ((p.length:Nat):Int):=by omega
  have hx:(p.zip o)[i]? = some (p[i],o[i]'(by omega)):=getElem?_zip_eq_some.2 ⟨getElem?_eq_getElem hi,getElem?_eq_getElem (by omega)⟩;simp only[zgq,e,decide_true,zo,zh,getElem?_eq_getElem hi,getElem?_eq_getElem (by omega:i < o.length),zl,wn];rw[ju (n:=(i:Int)+1) (by omega) (by omega),wu _ _ _ hx];rfl)
 have ht:(p.zip o).take p.length=p.zip o:=by rw[← hz,List.take_length]
 rw[ht] at hs;have hs:lpO (zgq o p) (0,0)=some (.inl (numW o p,(p.length:Int))):=hs.trans (qm (by simp[zgq,numW]));simp only[P49,S49,qY,hs,ji]
end
section
def cmpL:List Int->List Int->Int
 | [],[]=>0
 | [],_ :: _ => -1
 | _ :: _,[]=>1
 | x :: a,y :: b=>if x < y then -1 else if y < x then 1 else cmpL a b
theorem P81_eq (a b:Int):P81 a b=some (if a < b then -1 else if b < a then 1 else 0):=by
 have e:∀ n:Int,P84 n=some false:=fun n=>by simp[P84,S84]
 simp only[P81,S81,e,zl,zg];by_cases h1:a < b
 ·simp[h1]
 ·by_cases h2:b < a<;>simp[h1,h2]
theorem cmp_loop (a b:List Int) (h:a.length<=9223372036854775807):∀ (n i:Nat),a.length - i=n->i<=a.length->i<=b.length->jn (lpO (zd2 P81 a b) (i:Int)) (fun _=>br (decide (((List.length a:Nat):Int) < ((List.length b:Nat):Int))) (some (-1:Int)) (some (0:Int)))=some (cmpL (a.drop i) (b.drop i)):=by
 intro n
 induction n with
 | zero =>
  intro i hi hl hb;obtain rfl:i=a.length:=by omega
  rw[qm (y:=(a.length:Int)) (by simp[zd2])];rw[List.drop_length];simp only[ji];by_cases hlt:a.length < b.length
  ·have e:((a.length:Nat):Int) < ((b.length:Nat):Int):=by omega
   rw[List.drop_eq_getElem_cons hlt];simp[e,cmpL]
  ·have e:¬ ((a.length:Nat):Int) < ((b.length:Nat):Int):=by omega
   rw[List.drop_eq_nil_of_le (by omega)];simp[e,cmpL]
 | succ n ih =>
  intro i hi hl hb;have hia:i < a.length:=by omega
  have e:((i:Nat):Int) < ((a.length:Nat):Int):=by omega
  rw[List.drop_eq_getElem_cons hia];by_cases hib:i < b.length
  ·have e2:¬ ((b.length:Nat):Int)<=((i:Nat):Int):=by omega
   rw[List.drop_eq_getElem_cons hib];simp only[cmpL];have hB:zd2 P81 a b (i:Int)=some (if a[i] < b[i] then .fin (-1) else if b[i] < a[i] then .fin 1 else .nx ((i:Int)+1)):=by
    simp only[zd2,e,e2,decide_true,decide_false,zo,zg,zh,getElem?_eq_getElem hia,getElem?_eq_getElem hib,zl,P81_eq];rw[ju (by omega) (by omega)];by_cases c1:a[i] < b[i]
    ·simp[c1]
    ·by_cases c2:b[i] < a[i]<;>simp[c1,c2]
   by_cases c1:a[i] < b[i]
   ·rw[if_pos c1] at hB ⊢;rw[zaj hB];rfl
   ·rw[if_neg c1] at hB ⊢;by_cases c2:b[i] < a[i]
    ·rw[if_pos c2] at hB ⊢;rw[zaj hB];rfl
    ·rw[if_neg c2] at hB ⊢;rw[zdP hB];exact ih (i+1) (by omega) (by omega) (by omega)
  ·have e2:((b.length:Nat):Int)<=((i:Nat):Int):=by omega
   rw[List.drop_eq_nil_of_le (by omega:b.length<=i),zaj (a:=(1:Int)) (by simp[zd2,e,e2,zh,hia])];rfl
theorem P74_eq (a b:List Int) (h:a.length<=9223372036854775807):P74 a b=some (cmpL a b):=by simp only[P74,S74,qY];exact cmp_loop a b h a.length 0 (by omega) (Nat.zero_le _) (Nat.zero_le _)
theorem ziv (a b:Entry) (h:a.at_.length<=9223372036854775807):P61 a b=some (cmpL a.at_ b.at_):=by simp[P61,S61,P74_eq _ _ h]
def zd4 (n:Int):Bool:=decide (-1000000<=n) && decide (n<=1000000)
theorem P60_eq (n:Int):P60 n=some (zd4 n):=by simp[P60,S60,zd4]
def zbE (o:List Dim) (l:List Entry) (i:Nat) (e:Entry):Int :=
 if ¬ yx o e.at_=0 then yx o e.at_ else if zfT o e.at_=false then 6 else if zd4 e.n=false then 1
 else match i with | 0=>0 | j+1=>match l[j]? with | some e0=>if 0<=cmpL e0.at_ e.at_ then 7 else 0 | none=>0
def entsE (o:List Dim) (l:List Entry):Int :=
 if ¬ (jN o).2.2=0 then (jN o).2.2 else match (List.range l.length).findSome? fun i=>match l[i]? with | some e=>if zbE o l i e=0 then none else some (zbE o l i e) | none=>none with
 | some e=>e
 | none=>0
theorem P27_eq (o:List Dim) (l:List Entry) (hl:Lst Entry.gd l):P27 o l=some (zq (entsE o l)):=by
 simp only[P27,S27,P51_eq,zl,zZ];unfold entsE;by_cases h0:(jN o).2.2=0
 case neg=>simp[h0]
 have ok:=zdJ.1 h0;have hdm:∀ d∈o,d.members.length<=1000:=fun d hd=>by have:=(ok.dims d hd).len;omega
 have hlen:=hl.1;rw[if_neg (by simpa using h0)];simp only[h0,decide_true,Bool.not_true,zg];have:=wF (B:=zio P58 P59 P60 P61 o l) l.length (fun i=>match l[i]? with
  | some e=>if zbE o l i e=0 then none else some (zq (zbE o l i e))
  | none=>none) (fun i hi=>by
   have e:((i:Nat):Int) < ((l.length:Nat):Int):=by omega
   have hm:=getElem?_eq_getElem hi;have hg:=hl.2 _ (getElem_mem hi);generalize l[i]=x at hm hg;have hat:x.at_.length<=9223372036854775807:=hg.1.1;simp only[zio,e,decide_true,zo,zh,hm,zl,zdd o _ hat,zZ];rw[ju (n:=(i:Int)+1) (by omega) (by omega)];by_cases c1:yx o x.at_=0
   case neg =>
    have hE:zbE o l i x=yx o x.at_:=by unfold zbE;rw[if_pos c1]
    simp[hE,c1]
   have hf:=zam.1 c1;have c1':¬ ¬ yx o x.at_=0:=fun h=>h c1;simp only[c1,decide_true,Bool.not_true,zg,P59_eq hf hat hdm,zl,P60_eq];cases c2:zfT o x.at_ with
   | false =>
    have hE:zbE o l i x=6:=by unfold zbE;rw[if_neg c1',if_pos c2]
    simp[hE,zq]
   | true =>
    have c2':¬ zfT o x.at_=false:=by rw[c2];simp
    cases c3:zd4 x.n with
    | false =>
     have hE:zbE o l i x=1:=by unfold zbE;rw[if_neg c1',if_neg c2',if_pos c3]
     simp[hE,zq]
    | true =>
     have c3':¬ zd4 x.n=false:=by rw[c3];simp
     simp only[Bool.not_true,zg];cases i with
     | zero =>
      have hE:zbE o l 0 x=0:=by unfold zbE;rw[if_neg c1',if_neg c2',if_neg c3']
      simp[hE]
     | succ j =>
      have hj:j < l.length:=by omega
      have ej:=getElem?_eq_getElem hj;have hgj:=hl.2 _ (getElem_mem hj);have hE:zbE o l (j+1) x=if 0<=cmpL l[j].at_ x.at_ then 7 else 0:=by unfold zbE;rw[if_neg c1',if_neg c2',if_neg c3'];simp only[ej]
      have e0:(0:Int) < ((j+1:Nat):Int):=by omega
      have e1:((j+1:Nat):Int) - 1=(j:Int):=by omega
      simp only[e0,decide_true,zo,e1];rw[ju (n:=(j:Int)) (by omega) (by omega)];simp only[zh,ej,zl,ziv _ _ hgj.1.1,hE];by_cases c4:0<=cmpL l[j].at_ x.at_<;>simp[c4,zq]) (by simp[zio])
 unfold lp;rw[this];have e2:((List.range l.length).findSome? fun i=>match l[i]? with
  | some e=>if zbE o l i e=0 then none else some (zq (zbE o l i e))
  | none=>none)=((List.range l.length).findSome? fun i=>match l[i]? with | some e=>if zbE o l i e=0 then none else some (zbE o l i e) | none=>none).map zq:=by
  rw[← qn];congr 1;funext i;cases l[i]? with
  | none=>rfl
  | some m=>by_cases h:zbE o l i m=0<;>simp[h]
 rw[e2];cases ((List.range l.length).findSome? fun i=>match l[i]? with | some e=>if zbE o l i e=0 then none else some (zbE o l i e) | none=>none) with
 | none=>simp[zq]
 | some r=>rfl
structure EntsOk (o:List Dim) (l:List Entry):Prop where
 out:OutOk o
 fit:∀ e∈l,Fit o e.at_
 leaf:∀ e∈l,zfT o e.at_=true
 val:∀ e∈l,zd4 e.n=true
 rise:∀ (i:Nat) (a b:Entry),l[i]? = some a->l[i+1]? = some b->cmpL a.at_ b.at_ < 0
theorem ents_ok {o:List Dim} {l:List Entry}:entsE o l=0↔EntsOk o l:=by
 unfold entsE;by_cases h0:(jN o).2.2=0
 case neg=>rw[if_pos h0];exact ⟨fun e=>absurd e h0,fun e=>absurd (zdJ.2 e.out) h0⟩
 rw[if_neg (by simpa using h0)];cases hm:(List.range l.length).findSome? fun i=>match l[i]? with | some e=>if zbE o l i e=0 then none else some (zbE o l i e) | none=>none with
 | some r =>
  obtain ⟨i,hi,hr⟩:=List.exists_of_findSome?_eq_some hm;have hi:i < l.length:=by simpa using hi
  rw[getElem?_eq_getElem hi] at hr;simp only at hr;split at hr
  ·cases hr
  ·rename_i hne;cases hr;refine ⟨fun h=>absurd h hne,fun h=>absurd ?_ hne⟩;have hmem:=getElem_mem hi;unfold zbE;rw[if_neg (by simpa using zam.2 (h.fit _ hmem)),if_neg (by simp[h.leaf _ hmem]),if_neg (by simp[h.val _ hmem])];cases i with
   | zero=>rfl
   | succ j =>simp only;rw[getElem?_eq_getElem (by omega:j < l.length)];have:=h.rise j _ _ (getElem?_eq_getElem (by omega:j < l.length)) (getElem?_eq_getElem hi);simp only;rw[if_neg (by omega)]
 | none =>
  have hn:=List.findSome?_eq_none_iff.1 hm;have each:∀ (i:Nat) (e:Entry),l[i]? = some e->zbE o l i e=0:=by
   intro i e hi;have hi':=(List.getElem?_eq_some_iff.1 hi).1;have:=hn i (by simpa using hi');rw[hi] at this;simp only at this;split at this
   ·assumption
   ·cases this
  have parts:∀ (i:Nat) (e:Entry),l[i]? = some e->yx o e.at_=0∧zfT o e.at_=true∧zd4 e.n=true∧∀ j e0,i=j+1->l[j]? = some e0->cmpL e0.at_ e.at_ < 0:=by
   intro i e hi;have:=each i e hi;unfold zbE at this;by_cases c1:yx o e.at_=0
   case neg=>rw[if_pos c1] at this;exact absurd this c1
   rw[if_neg (by simpa using c1)] at this;by_cases c2:zfT o e.at_=false
   ·rw[if_pos c2] at this;cases this
   rw[if_neg c2] at this;by_cases c3:zd4 e.n=false
   ·rw[if_pos c3] at this;cases this
   rw[if_neg c3] at this;refine ⟨c1,by simpa using c2,by simpa using c3,fun j e0 hj hj0 => ?_⟩;subst hj;simp only[hj0] at this;split at this
   ·cases this
   ·omega
  refine ⟨fun _=>⟨zdJ.1 h0,fun e he => ?_,fun e he => ?_,fun e he => ?_,fun i a b ha hb=>(parts _ _ hb).2.2.2 i a rfl ha⟩,fun _=>rfl⟩
  ·obtain ⟨i,hi⟩:=mem_iff_getElem?.1 he;exact zam.1 (parts i e hi).1
  ·obtain ⟨i,hi⟩:=mem_iff_getElem?.1 he;exact (parts i e hi).2.1
  ·obtain ⟨i,hi⟩:=mem_iff_getElem?.1 he;exact (parts i e hi).2.2.1
end
section
def sizeN (o:List Dim):Nat:=o.foldr (fun d n=>d.members.length * n) 1
theorem digs_size (o:List Dim) (hp:∀ d∈o,0 < d.members.length):∀ (q s:Nat),s < sizeN o->zdt o (q * sizeN o+s)=((zdt o s).1,q):=by
 induction o with
 | nil=>intro q s hs;simp[sizeN] at hs;subst hs;simp[zdt,sizeN]
 | cons d r ih =>
  intro q s hs;have hpr:∀ x∈r,0 < x.members.length:=fun x hx=>hp x (mem_cons_of_mem _ hx);have hd:=hp d mem_cons_self;have hS:sizeN (d :: r)=d.members.length * sizeN r:=rfl;have hSr:0 < sizeN r:=by
   cases h:sizeN r with
   | zero=>rw[hS,h] at hs;simp at hs
   | succ=>omega
  rw[hS] at hs ⊢;have hs1:s=(s / sizeN r) * sizeN r+s % sizeN r:=by rw[mul_comm];exact (Nat.div_add_mod s (sizeN r)).symm
  have hs2:s % sizeN r < sizeN r:=Nat.mod_lt _ hSr;have hs3:s / sizeN r < d.members.length:=Nat.div_lt_of_lt_mul (by rw[mul_comm];exact hs);have e1:q * (d.members.length * sizeN r)+s=(q * d.members.length+s / sizeN r) * sizeN r+s % sizeN r:=(by rw[add_mul,mul_assoc,Nat.add_assoc];omega);have d1:=ih hpr (q * d.members.length+s / sizeN r) (s % sizeN r) hs2;have d2:=ih hpr (s / sizeN r) (s % sizeN r) hs2;rw[← e1] at d1;rw[← hs1] at d2;simp only[zdt,d1,d2];rw[Nat.add_comm (q * d.members.length),Nat.add_mul_mod_self_right,Nat.mod_eq_of_lt hs3,Nat.add_mul_div_right _ _ hd,Nat.div_eq_of_lt hs3,Nat.zero_add]
def allIn {α:Type}:List (α->Bool)->List α->Bool
 | f :: fs,x :: xs=>f x && allIn fs xs
 | _,_=>true
end
section
theorem size_fold:∀ (o:List Dim) (n:Nat),(∀ d∈o,0 < d.members.length)->n * sizeN o<=1000000000->o.foldl (fun n d=>wi (n * ((d.members.length:Nat):Int))) (n:Int)=((n * sizeN o:Nat):Int)
 | [],n,_,_=>by simp[sizeN]
 | d :: r,n,hp,hb=>by
  have hS:sizeN (d :: r)=d.members.length * sizeN r:=rfl;have hpr:∀ x∈r,0 < x.members.length:=fun x hx=>hp x (mem_cons_of_mem _ hx);rw[hS,← mul_assoc] at hb;have hr:0 < sizeN r:=by
   clear hb hS hp
   induction r with
   | nil=>simp[sizeN]
   | cons a r ih =>have h1:=hpr a mem_cons_self;have h2:=ih fun x hx=>hpr x (mem_cons_of_mem _ hx);show 0 < a.members.length * sizeN r;exact Nat.mul_pos h1 h2
  have hb2:n * d.members.length<=1000000000:=le_trans (Nat.le_mul_of_pos_right _ hr) hb;have hw:wi ((n:Int) * ((d.members.length:Nat):Int))=((n * d.members.length:Nat):Int):=(by rw[← Int.natCast_mul,ju (by omega) (by omega)]);rw[List.foldl_cons,hw,size_fold r _ hpr hb,hS,← mul_assoc]
theorem size_le:∀ (o:List Dim),(∀ d∈o,d.members.length<=12)->sizeN o<=12 ^ o.length
 | [],_=>by simp[sizeN]
 | d :: r,h=>by
  have h1:=h d mem_cons_self;have h2:=size_le r fun x hx=>h x (mem_cons_of_mem _ hx);show d.members.length * sizeN r<=_;rw[List.length_cons,Nat.pow_succ,mul_comm];exact Nat.mul_le_mul h2 h1
theorem pow_le {n:Nat} (h:n<=4):12 ^ n<=20736:=by have:(12:Nat) ^ n<=12 ^ 4:=Nat.pow_le_pow_right (by omega) h;simpa using this
theorem OutOk.sizeN {o:List Dim} (ok:OutOk o):zfp o=(sizeN o:Nat)∧Ab.sizeN o<=20736:=by have h1:=size_le o fun d hd=>(ok.dims d hd).len.2;have h2:=pow_le ok.len.2;refine ⟨?_,by omega⟩;have:=size_fold o 1 (fun d hd=>(ok.dims d hd).len.1) (by omega);rw[Nat.one_mul] at this;exact this
theorem digs_fit {o:List Dim} (ok:OutOk o) (n:Nat):Fit o (zdt o n).1:=by
 have hp:∀ d∈o,0 < d.members.length:=fun d hd=>(ok.dims d hd).len.1;refine ⟨digs_len o n, ?_⟩;clear ok
 induction o with
 | nil=>intro i m d h;simp[zdt] at h
 | cons d r ih =>
  intro i m e hm he;cases i with
  | zero =>simp only[zdt,List.getElem?_cons_zero,Option.some.injEq] at hm he;subst hm;subst he;have:=Nat.mod_lt (zdt r n).2 (hp d mem_cons_self);omega
  | succ i =>simp only[zdt,List.getElem?_cons_succ] at hm he;exact ih (fun x hx=>hp x (mem_cons_of_mem _ hx)) i m e hm he
def zgU:List Dim->List Int->Nat
 | _ :: o,m :: p=>m.toNat * sizeN o+zgU o p
 | _,_=>0
theorem Fit.tail {d:Dim} {o:List Dim} {m:Int} {p:List Int} (h:Fit (d :: o) (m :: p)):(0<=m∧m < d.members.length)∧Fit o p :=
 ⟨h.mem 0 m d rfl rfl,by simpa using h.len,fun i m' d' hm hd=>h.mem (i+1) m' d' (by simpa using hm) (by simpa using hd)⟩
theorem zfF:∀ {o:List Dim} {p:List Int},Fit o p->zgU o p < sizeN o
 | [],[],_=>by simp[zgU,sizeN]
 | [],_ :: _,h=>by have:=h.len;simp at this
 | _ :: _,[],h=>by have:=h.len;simp at this
 | d :: o,m :: p,h=>by
  obtain ⟨h1,h2⟩:=h.tail;have:=zfF h2;have e:sizeN (d :: o)=d.members.length * sizeN o:=rfl;have h3:(m.toNat+1) * sizeN o<=d.members.length * sizeN o:=Nat.mul_le_mul_right _ (by omega);rw[add_mul] at h3;simp only[zgU,e];omega
theorem zbQ:∀ {o:List Dim} {p:List Int},(∀ d∈o,0 < d.members.length)->Fit o p->zdt o (zgU o p)=(p,0)
 | [],[],_,_=>rfl
 | [],_ :: _,_,h=>by have:=h.len;simp at this
 | _ :: _,[],_,h=>by have:=h.len;simp at this
 | d :: o,m :: p,hp,h=>by
  obtain ⟨h1,h2⟩:=h.tail;have hpo:∀ d∈o,0 < d.members.length:=fun x hx=>hp x (mem_cons_of_mem _ hx);have ih:=zbQ hpo h2;have hd:=digs_size o hpo m.toNat (zgU o p) (zfF h2);have hlt:m.toNat < d.members.length:=by omega
  simp only[zgU,zdt,hd,ih,Nat.mod_eq_of_lt hlt,Nat.div_eq_of_lt hlt];rw[Int.toNat_of_nonneg h1.1]
theorem zhN:∀ (o:List Dim) (p:List Int) (n:Nat),(∀ d∈o,0 < d.members.length)->Fit o p->(n+1) * sizeN o<=1000000000 ->
  (p.zip o).foldl (fun n x=>wi (wi (n * (x.2.members.length:Int))+x.1)) (n:Int)=((n * sizeN o+zgU o p:Nat):Int)
 | [],[],n,_,_,_=>by simp[sizeN,zgU]
 | [],_ :: _,_,_,h,_=>by have:=h.len;simp at this
 | _ :: _,[],_,_,h,_=>by have:=h.len;simp at this
 | d :: o,m :: p,n,hp,h,hb=>by
  obtain ⟨h1,h2⟩:=h.tail;have hpo:∀ d∈o,0 < d.members.length:=fun x hx=>hp x (mem_cons_of_mem _ hx);have e:sizeN (d :: o)=d.members.length * sizeN o:=rfl;have hpos:0 < sizeN o:=by have:=zfF h2;omega
  have hb1:(n * d.members.length+m.toNat+1) * sizeN o<=(n+1) * (d.members.length * sizeN o):=(by rw[← mul_assoc];refine Nat.mul_le_mul_right _ ?_;rw[add_mul,Nat.one_mul];omega);rw[e] at hb;have hle:n * d.members.length+m.toNat+1<=1000000000:=le_trans (Nat.le_mul_of_pos_right _ hpos) (le_trans hb1 hb);have ih:=zhN o p (n * d.members.length+m.toNat) hpo h2 (le_trans hb1 hb);simp only[List.zip_cons_cons,List.foldl_cons];have e1:wi ((n:Int) * ((d.members.length:Nat):Int))=((n * d.members.length:Nat):Int):=by
   have e0:(n:Int) * ((d.members.length:Nat):Int)=((n * d.members.length:Nat):Int):=by simp
   rw[e0,ju (by omega) (by omega)]
  have e2:wi (((n * d.members.length:Nat):Int)+m)=((n * d.members.length+m.toNat:Nat):Int):=(by rw[ju (by omega) (by omega)];omega);rw[e1,e2,ih];congr 1;simp only[zgU,e];rw[add_mul,mul_assoc,Nat.add_assoc]
theorem numW_eq {o:List Dim} {p:List Int} (ok:OutOk o) (h:Fit o p):numW o p=((zgU o p:Nat):Int):=by have hp:∀ d∈o,0 < d.members.length:=fun d hd=>(ok.dims d hd).len.1;have hs:=ok.sizeN.2;have:=zhN o p 0 hp h (by omega);simpa[numW] using this
end
end Ab
