import Derived.Test.YtchidgkpkhloeaaGreatDoorH9
open List (getElem?_eq_getElem getElem?_zip_eq_some getElem_mem length_zip mem_iff_getElem?)
open Nat (min_self)
open Int (toNat_natCast)
set_option linter.unusedVariables false
set_option linter.unusedSimpArgs false
namespace Ab
open Go
section
def qw:List Dim->Nat->List Int×Nat
 | [],n=>([],n)
 | d :: r,n=>(((((qw r n).2 % d.members.length:Nat)):Int) :: (qw r n).1,(qw r n).2 / d.members.length)
theorem ziT (o:List Dim) (n:Nat):(qw o n).1.length=o.length:=by
 induction o with
 | nil=>rfl
 | cons d r ih=>simp[qw,ih]
theorem digs_le (o:List Dim) (n:Nat):(qw o n).2<=n:=by
 induction o with
 | nil=>exact Nat.le_refl _
 | cons d r ih=>simp only[qw];exact Nat.le_trans (Nat.div_le_self _ _) ih
theorem set_rep (k:Nat) (x:Int) (l:List Int):(List.replicate (k+1) (0:Int)++l).set k x=List.replicate k 0++x :: l:=by
 induction k with
 | zero=>rfl
 | succ k ih=>rw[List.replicate_succ,List.cons_append,List.set_cons_succ,ih];rfl
theorem P69_eq (o:List Dim) (n:Nat) (hl:o.length<=1000) (hn:n<=1000000000) (hp:∀ d∈o,0 < d.members.length∧d.members.length<=1000000):P69 o (n:Int)=some (qw o n).1:=by
 have hck:(0:Int)<=(o.length:Int)∧(o.length:Int)<=(o.length:Int)∧(o.length:Int)<=zu:=by unfold zu;omega
 have hs:=zJ (B:=zgS o) (fun k=>((((qw (o.drop (o.length - k)) n).2:Nat):Int),((o.length:Int) - k - 1,List.replicate (o.length - k) (0:Int)++(qw (o.drop (o.length - k)) n).1))) o.length (fun k hk=>by
  obtain ⟨j,hj⟩:∃ j,o.length - k=j+1:=⟨o.length - k - 1,by omega⟩;have hj2:o.length - (k+1)=j:=by omega
  have hjl:j < o.length:=by omega
  have hd:=getElem?_eq_getElem hjl;have hdrop:o.drop j=o[j] :: o.drop (j+1):=List.drop_eq_getElem_cons hjl;have hpos:=hp o[j] (getElem_mem hjl);have hle:=digs_le (o.drop (j+1)) n;have ei:(o.length:Int) - (k:Int) - 1=(j:Int):=by omega
  have ei2:(o.length:Int) - ((k+1:Nat):Int) - 1=(j:Int) - 1:=by omega
  have h0:(0:Int)<=(j:Int):=by omega
  have hne:¬ ((o[j].members.length:Nat):Int)=0:=by omega
  simp only[hj,hj2,ei,ei2,hdrop,qw];have hlen:(List.replicate (j+1) (0:Int)++(qw (o.drop (j+1)) n).1).length=o.length:=by simp[ziT];omega
  have hck2:(0:Int)<=(j:Int)∧(j:Int) < (((List.replicate (j+1) (0:Int)++(qw (o.drop (j+1)) n).1).length:Nat):Int):=by rw[hlen];omega
  have hget:(List.replicate (j+1) (0:Int)++(qw (o.drop (j+1)) n).1)[j]? = some 0:=(by rw[List.getElem?_append_left (by simp),List.getElem?_replicate];simp);simp only[zgS,h0,decide_true,zm,zb,hd,zi,hne,not_false_eq_true,ck_true,hck2.2,true_and,toNat_natCast,hget,set_rep,yH];have ediv:Int.tdiv (((qw (o.drop (j+1)) n).2:Nat):Int) ((o[j].members.length:Nat):Int)=(((qw (o.drop (j+1)) n).2 / o[j].members.length:Nat):Int):=rfl;have emod:Int.tmod (((qw (o.drop (j+1)) n).2:Nat):Int) ((o[j].members.length:Nat):Int)=(((qw (o.drop (j+1)) n).2 % o[j].members.length:Nat):Int):=rfl;have hdl:=Nat.div_le_self (qw (o.drop (j+1)) n).2 o[j].members.length;rw[ediv,emod];clear ediv emod;generalize (qw (o.drop (j+1)) n).2 / o[j].members.length=q at hdl ⊢;rw[qL (n:=(q:Int)) (by omega) (by omega),qL (by omega) (by omega)])
 have e0:o.drop (o.length - 0)=[]:=by simp
 have e1:o.drop (o.length - o.length)=o:=by simp
 simp only[e0,e1] at hs;simp only[Nat.sub_self,List.replicate_zero,List.nil_append,Nat.sub_zero,qw,List.append_nil] at hs;have hs2:lpO (zgS o) ((n:Int),((o.length:Int) - 1,List.replicate o.length (0:Int)))=some (.inl ((((qw o n).2:Nat):Int),(-1,(qw o n).1))):=by
  have ea:(o.length:Int) - ((0:Nat):Int) - 1=(o.length:Int) - 1:=by omega
  have eb:(o.length:Int) - ((o.length:Nat):Int) - 1 = -1:=by omega
  rw[ea,eb] at hs;exact hs.trans (zP (by simp[zgS]))
 simp only[P69,S69,zp hck,qy,toNat_natCast,List.length_replicate];rw[qL (by omega) (by omega),hs2];rfl
theorem P98_eq (o:List Dim) (n:Int):P98 o n=some (if (qj o).2.2=0 then (if n < 0∨zdF o<=n then ([],.no 1) else ((qw o n.toNat).1,.nil)) else ([],zn (qj o).2.2)):=by
 simp only[P98,S98,zjc,zi,zG];by_cases h:(qj o).2.2=0
 ·have ok:=yd.1 h;have hl:=ok.len;have hs:=ok.size;simp only[h,decide_true,Bool.not_true,zd,zgU o (by omega),zi,zx,br_inl,qp,if_true];by_cases h1:n < 0
  ·simp[h1]
  ·by_cases h2:zdF o<=n
   ·simp[h1,h2]
   ·obtain ⟨k,rfl⟩:=Int.eq_ofNat_of_zero_le (by omega:0<=n);simp only[h1,h2,decide_false,cond_false,zd,false_or,if_false,toNat_natCast];rw[P69_eq o k (by omega) (by omega) fun d hd=>by have:=(ok.dims d hd).len;omega];rfl
 ·simp[h]
def badM (x:Int×Dim):Bool:=decide (x.1 < 0) || decide ((x.2.members.length:Int)<=x.1)
def jq (o:List Dim) (p:List Int):Int:=if ¬ p.length=o.length then 3 else if (p.zip o).any badM=true then 1 else 0
structure Fit (o:List Dim) (p:List Int):Prop where
 len:p.length=o.length
 mem:∀ (i:Nat) (m:Int) (d:Dim),p[i]? = some m->o[i]? = some d->0<=m∧m < d.members.length
theorem jS {o:List Dim} {p:List Int}:jq o p=0↔Fit o p:=by
 unfold jq;by_cases h1:p.length=o.length
 ·rw[if_neg (by simpa using h1)];by_cases h2:(p.zip o).any badM=true
  ·rw[if_pos h2];refine ⟨fun e=>(by cases e),fun h => ?_⟩;obtain ⟨x,hx,hb⟩:=List.any_eq_true.1 h2;obtain ⟨i,hi⟩:=mem_iff_getElem?.1 hx;obtain ⟨e1,e2⟩:=getElem?_zip_eq_some.1 hi;have:=h.mem i _ _ e1 e2;simp only[badM,Bool.or_eq_true,decide_eq_true_eq] at hb;omega
  ·rw[if_neg h2];refine ⟨fun _=>⟨h1,fun i m d hm hd => ?_⟩,fun _=>rfl⟩;have hx:(m,d)∈p.zip o:=mem_iff_getElem?.2 ⟨i,getElem?_zip_eq_some.2 ⟨hm,hd⟩⟩;have:¬ badM (m,d)=true:=fun e=>h2 (List.any_eq_true.2 ⟨_,hx,e⟩);simp only[badM,Bool.or_eq_true,decide_eq_true_eq] at this;omega
 ·rw[if_pos h1];exact ⟨fun e=>(by cases e),fun h=>absurd h.len h1⟩
theorem zdy (o:List Dim) (p:List Int) (h:p.length<=9223372036854775807):P58 o p=some (zn (jq o p)):=by
 simp only[P58,S58];unfold jq;by_cases h1:p.length=o.length
 ·have e:((p.length:Nat):Int)=((o.length:Nat):Int):=by omega
  rw[if_neg (by simpa using h1)];simp only[e,not_true,decide_false,zd];rw[zfj badM (p.zip o) (Err.no 1) Err.nil (fun i y hy => ?_) (by rw[length_zip,← h1,min_self];simp[S58_L1])]
  ·cases (p.zip o).any badM<;>simp[zn]
  ·obtain ⟨e1,e2⟩:=getElem?_zip_eq_some.1 hy;have hi:=(List.getElem?_eq_some_iff.1 e1).1;have e:((i:Nat):Int) < ((p.length:Nat):Int):=by omega
   simp only[S58_L1,e,decide_true,zm,zb,e1,e2,zi,badM];rw[qL (by omega) (by omega)];by_cases c1:y.1 < 0
   ·simp[c1]
   ·by_cases c2:(y.2.members.length:Int)<=y.1<;>simp[c1,c2]
 ·have e:¬ ((p.length:Nat):Int)=((o.length:Nat):Int):=by omega
  rw[if_pos h1];simp[e,zn]
def zcG (o:List Dim) (p:List Int):Bool:=(p.zip o).all fun x=>wC x.2.members x.1.toNat
theorem all_any {α:Type} (f:α->Bool) (l:List α):l.all f = !l.any fun x => !f x:=by
 induction l with
 | nil=>rfl
 | cons a l ih=>simp only[List.all_cons,List.any_cons,ih];cases f a<;>rfl
theorem P59_eq {o:List Dim} {p:List Int} (hf:Fit o p) (h:p.length<=9223372036854775807) (hd:∀ d∈o,d.members.length<=1000):P59 o p=some (zcG o p):=by
 simp only[P59,S59];rw[zfj (fun x:Int×Dim => !wC x.2.members x.1.toNat) (p.zip o) false true (fun i y hy => ?_) (by rw[length_zip,← hf.len,min_self];simp[S59_L1])]
 ·rw[zcG,all_any];cases (p.zip o).any fun x => !wC x.2.members x.1.toNat<;>rfl
 ·obtain ⟨e1,e2⟩:=getElem?_zip_eq_some.1 hy;have hi:=(List.getElem?_eq_some_iff.1 e1).1;have e:((i:Nat):Int) < ((p.length:Nat):Int):=by omega
  have hm:=hf.mem i _ _ e1 e2;have hl:=hd _ (List.mem_of_getElem? e2);obtain ⟨k,hk⟩:=Int.eq_ofNat_of_zero_le hm.1;rw[hk] at hm e1;simp only[S59_L1,e,decide_true,zm,zb,e1,e2,zi,hk,P44_eq hl (by omega:k < y.2.members.length),toNat_natCast];rw[qL (by omega) (by omega)];cases wC y.2.members k<;>rfl
def numW (o:List Dim) (p:List Int):Int:=(p.zip o).foldl (fun n x=>wi (wi (n * (x.2.members.length:Int))+x.1)) 0
theorem zjd {o:List Dim} {p:List Int} (hl:p.length=o.length) (h:p.length<=9223372036854775807):P49 o p=some (numW o p):=by
 have hz:(p.zip o).length=p.length:=by rw[length_zip,← hl,min_self]
 have hs:=zJ (B:=zdl o p) (fun i=>(((p.zip o).take i).foldl (fun n x=>wi (wi (n * (x.2.members.length:Int))+x.1)) 0,(i:Int))) p.length (fun i hi=>by
  have e:((i:Nat):Int) < ((p.length:Nat):Int):=by omega
  have hx:(p.zip o)[i]? = some (p[i],o[i]'(by omega)):=getElem?_zip_eq_some.2 ⟨getElem?_eq_getElem hi,getElem?_eq_getElem (by omega)⟩;simp only[zdl,e,decide_true,zm,zb,getElem?_eq_getElem hi,getElem?_eq_getElem (by omega:i < o.length),zi,yH];rw[qL (n:=(i:Int)+1) (by omega) (by omega),jQ _ _ _ hx];rfl)
 have ht:(p.zip o).take p.length=p.zip o:=by rw[← hz,List.take_length]
 rw[ht] at hs;have hs:lpO (zdl o p) (0,0)=some (.inl (numW o p,(p.length:Int))):=hs.trans (zP (by simp[zdl,numW]));simp only[P49,S49,qy,hs,qp]
end
section
def cmpL:List Int->List Int->Int
 | [],[]=>0
 | [],_ :: _ => -1
 | _ :: _,[]=>1
 | x :: a,y :: b=>if x < y then -1 else if y < x then 1 else cmpL a b
theorem P81_eq (a b:Int):P81 a b=some (if a < b then -1 else if b < a then 1 else 0):=by
 have e:∀ n:Int,P84 n=some false:=fun n=>by simp[P84,S84]
 simp only[P81,S81,e,zi,zd];by_cases h1:a < b
 ·simp[h1]
 ·by_cases h2:b < a<;>simp[h1,h2]
theorem cmp_loop (a b:List Int) (h:a.length<=9223372036854775807):∀ (n i:Nat),a.length - i=n->i<=a.length->i<=b.length->jn (lpO (zem P81 a b) (i:Int)) (fun _=>br (decide (((List.length a:Nat):Int) < ((List.length b:Nat):Int))) (some (-1:Int)) (some (0:Int)))=some (cmpL (a.drop i) (b.drop i)):=by
 intro n
 induction n with
 | zero =>
  intro i hi hl hb;obtain rfl:i=a.length:=by omega
  rw[zP (y:=(a.length:Int)) (by simp[zem])];rw[List.drop_length];simp only[qp];by_cases hlt:a.length < b.length
  ·have e:((a.length:Nat):Int) < ((b.length:Nat):Int):=by omega
   rw[List.drop_eq_getElem_cons hlt];simp[e,cmpL]
  ·have e:¬ ((a.length:Nat):Int) < ((b.length:Nat):Int):=by omega
   rw[List.drop_eq_nil_of_le (by omega)];simp[e,cmpL]
 | succ n ih =>
  intro i hi hl hb;have hia:i < a.length:=by omega
  have e:((i:Nat):Int) < ((a.length:Nat):Int):=by omega
  rw[List.drop_eq_getElem_cons hia];by_cases hib:i < b.length
  ·have e2:¬ ((b.length:Nat):Int)<=((i:Nat):Int):=by omega
   rw[List.drop_eq_getElem_cons hib];simp only[cmpL];have hB:zem P81 a b (i:Int)=some (if a[i] < b[i] then .fin (-1) else if b[i] < a[i] then .fin 1 else .nx ((i:Int)+1)):=by
    simp only[zem,e,e2,decide_true,decide_false,zm,zd,zb,getElem?_eq_getElem hia,getElem?_eq_getElem hib,zi,P81_eq];rw[qL (by omega) (by omega)];by_cases c1:a[i] < b[i]
    ·simp[c1]
    ·by_cases c2:b[i] < a[i]<;>simp[c1,c2]
   by_cases c1:a[i] < b[i]
   ·rw[if_pos c1] at hB ⊢;rw[wB hB];rfl
   ·rw[if_neg c1] at hB ⊢;by_cases c2:b[i] < a[i]
    ·rw[if_pos c2] at hB ⊢;rw[wB hB];rfl
    ·rw[if_neg c2] at hB ⊢;rw[zaN hB];exact ih (i+1) (by omega) (by omega) (by omega)
  ·have e2:((b.length:Nat):Int)<=((i:Nat):Int):=by omega
   rw[List.drop_eq_nil_of_le (by omega:b.length<=i),wB (a:=(1:Int)) (by simp[zem,e,e2,zb,hia])];rfl
theorem P74_eq (a b:List Int) (h:a.length<=9223372036854775807):P74 a b=some (cmpL a b):=by simp only[P74,S74,qy];exact cmp_loop a b h a.length 0 (by omega) (Nat.zero_le _) (Nat.zero_le _)
theorem zjb (a b:Entry) (h:a.at_.length<=9223372036854775807):P61 a b=some (cmpL a.at_ b.at_):=by simp[P61,S61,P74_eq _ _ h]
def zeo (n:Int):Bool:=decide (-1000000<=n) && decide (n<=1000000)
theorem P60_eq (n:Int):P60 n=some (zeo n):=by simp[P60,S60,zeo]
def zbO (o:List Dim) (l:List Entry) (i:Nat) (e:Entry):Int :=
 if ¬ jq o e.at_=0 then jq o e.at_ else if zcG o e.at_=false then 6 else if zeo e.n=false then 1
 else match i with | 0=>0 | j+1=>match l[j]? with | some e0=>if 0<=cmpL e0.at_ e.at_ then 7 else 0 | none=>0
def entsE (o:List Dim) (l:List Entry):Int :=
 if ¬ (qj o).2.2=0 then (qj o).2.2 else match (List.range l.length).findSome? fun i=>match l[i]? with | some e=>if zbO o l i e=0 then none else some (zbO o l i e) | none=>none with
 | some e=>e
 | none=>0
theorem P27_eq (o:List Dim) (l:List Entry) (hl:Lst Entry.gd l):P27 o l=some (zn (entsE o l)):=by
 simp only[P27,S27,zjc,zi,zG];unfold entsE;by_cases h0:(qj o).2.2=0
 case neg=>simp[h0]
 have ok:=yd.1 h0;have hdm:∀ d∈o,d.members.length<=1000:=fun d hd=>by have:=(ok.dims d hd).len;omega
 have hlen:=hl.1;rw[if_neg (by simpa using h0)];simp only[h0,decide_true,Bool.not_true,zd];have:=wT (B:=zi6 P58 P59 P60 P61 o l) l.length (fun i=>match l[i]? with
  | some e=>if zbO o l i e=0 then none else some (zn (zbO o l i e))
  | none=>none) (fun i hi=>by
   have e:((i:Nat):Int) < ((l.length:Nat):Int):=by omega
   have hm:=getElem?_eq_getElem hi;have hg:=hl.2 _ (getElem_mem hi);generalize l[i]=x at hm hg;have hat:x.at_.length<=9223372036854775807:=hg.1.1;simp only[zi6,e,decide_true,zm,zb,hm,zi,zdy o _ hat,zG];rw[qL (n:=(i:Int)+1) (by omega) (by omega)];by_cases c1:jq o x.at_=0
   case neg =>
    have hE:zbO o l i x=jq o x.at_:=by unfold zbO;rw[if_pos c1]
    simp[hE,c1]
   have hf:=jS.1 c1;have c1':¬ ¬ jq o x.at_=0:=fun h=>h c1;simp only[c1,decide_true,Bool.not_true,zd,P59_eq hf hat hdm,zi,P60_eq];cases c2:zcG o x.at_ with
   | false =>
    have hE:zbO o l i x=6:=by unfold zbO;rw[if_neg c1',if_pos c2]
    simp[hE,zn]
   | true =>
    have c2':¬ zcG o x.at_=false:=by rw[c2];simp
    cases c3:zeo x.n with
    | false =>
     have hE:zbO o l i x=1:=by unfold zbO;rw[if_neg c1',if_neg c2',if_pos c3]
     simp[hE,zn]
    | true =>
     have c3':¬ zeo x.n=false:=by rw[c3];simp
     simp only[Bool.not_true,zd];cases i with
     | zero =>
      have hE:zbO o l 0 x=0:=by unfold zbO;rw[if_neg c1',if_neg c2',if_neg c3']
      simp[hE]
     | succ j =>
      have hj:j < l.length:=by omega
      have ej:=getElem?_eq_getElem hj;have hgj:=hl.2 _ (getElem_mem hj);have hE:zbO o l (j+1) x=if 0<=cmpL l[j].at_ x.at_ then 7 else 0:=by unfold zbO;rw[if_neg c1',if_neg c2',if_neg c3'];simp only[ej]
      have e0:(0:Int) < ((j+1:Nat):Int):=by omega
      have e1:((j+1:Nat):Int) - 1=(j:Int):=by omega
      simp only[e0,decide_true,zm,e1];rw[qL (n:=(j:Int)) (by omega) (by omega)];simp only[zb,ej,zi,zjb _ _ hgj.1.1,hE];by_cases c4:0<=cmpL l[j].at_ x.at_<;>simp[c4,zn]) (by simp[zi6])
 unfold lp;rw[this];have e2:((List.range l.length).findSome? fun i=>match l[i]? with
  | some e=>if zbO o l i e=0 then none else some (zn (zbO o l i e))
  | none=>none)=((List.range l.length).findSome? fun i=>match l[i]? with | some e=>if zbO o l i e=0 then none else some (zbO o l i e) | none=>none).map zn:=by
  rw[← qb];congr 1;funext i;cases l[i]? with
  | none=>rfl
  | some m=>by_cases h:zbO o l i m=0<;>simp[h]
 rw[e2];cases ((List.range l.length).findSome? fun i=>match l[i]? with | some e=>if zbO o l i e=0 then none else some (zbO o l i e) | none=>none) with
 | none=>simp[zn]
 | some r=>rfl
structure EntsOk (o:List Dim) (l:List Entry):Prop where
 out:OutOk o
 fit:∀ e∈l,Fit o e.at_
 leaf:∀ e∈l,zcG o e.at_=true
 val:∀ e∈l,zeo e.n=true
 rise:∀ (i:Nat) (a b:Entry),l[i]? = some a->l[i+1]? = some b->cmpL a.at_ b.at_ < 0
theorem ents_ok {o:List Dim} {l:List Entry}:entsE o l=0↔EntsOk o l:=by
 unfold entsE;by_cases h0:(qj o).2.2=0
 case neg=>rw[if_pos h0];exact ⟨fun e=>absurd e h0,fun e=>absurd (yd.2 e.out) h0⟩
 rw[if_neg (by simpa using h0)];cases hm:(List.range l.length).findSome? fun i=>match l[i]? with | some e=>if zbO o l i e=0 then none else some (zbO o l i e) | none=>none with
 | some r =>
  obtain ⟨i,hi,hr⟩:=List.exists_of_findSome?_eq_some hm;have hi:i < l.length:=by simpa using hi
  rw[getElem?_eq_getElem hi] at hr;simp only at hr;split at hr
  ·cases hr
  ·rename_i hne;cases hr;refine ⟨fun h=>absurd h hne,fun h=>absurd ?_ hne⟩;have hmem:=getElem_mem hi;unfold zbO;rw[if_neg (by simpa using jS.2 (h.fit _ hmem)),if_neg (by simp[h.leaf _ hmem]),if_neg (by simp[h.val _ hmem])];cases i with
   | zero=>rfl
   | succ j =>simp only;rw[getElem?_eq_getElem (by omega:j < l.length)];have:=h.rise j _ _ (getElem?_eq_getElem (by omega:j < l.length)) (getElem?_eq_getElem hi);simp only;rw[if_neg (by omega)]
 | none =>
  have hn:=List.findSome?_eq_none_iff.1 hm;have each:∀ (i:Nat) (e:Entry),l[i]? = some e->zbO o l i e=0:=by
   intro i e hi;have hi':=(List.getElem?_eq_some_iff.1 hi).1;have:=hn i (by simpa using hi');rw[hi] at this;simp only at this;split at this
   ·assumption
   ·cases this
  have parts:∀ (i:Nat) (e:Entry),l[i]? = some e->jq o e.at_=0∧zcG o e.at_=true∧zeo e.n=true∧∀ j e0,i=j+1->l[j]? = some e0->cmpL e0.at_ e.at_ < 0:=by
   intro i e hi;have:=each i e hi;unfold zbO at this;by_cases c1:jq o e.at_=0
   case neg=>rw[if_pos c1] at this;exact absurd this c1
   rw[if_neg (by simpa using c1)] at this;by_cases c2:zcG o e.at_=false
   ·rw[if_pos c2] at this;cases this
   rw[if_neg c2] at this;by_cases c3:zeo e.n=false
   ·rw[if_pos c3] at this;cases this
   rw[if_neg c3] at this;refine ⟨c1,by simpa using c2,by simpa using c3,fun j e0 hj hj0 => ?_⟩;subst hj;simp only[hj0] at this;split at this
   ·cases this
   ·omega
  refine ⟨fun _=>⟨yd.1 h0,fun e he => ?_,fun e he => ?_,fun e he => ?_,fun i a b ha hb=>(parts _ _ hb).2.2.2 i a rfl ha⟩,fun _=>rfl⟩
  ·obtain ⟨i,hi⟩:=mem_iff_getElem?.1 he;exact jS.1 (parts i e hi).1
  ·obtain ⟨i,hi⟩:=mem_iff_getElem?.1 he;exact (parts i e hi).2.1
  ·obtain ⟨i,hi⟩:=mem_iff_getElem?.1 he;exact (parts i e hi).2.2.1
end
end Ab
