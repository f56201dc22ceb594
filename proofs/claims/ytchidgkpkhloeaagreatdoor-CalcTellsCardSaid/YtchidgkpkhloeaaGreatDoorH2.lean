import Derived.Test.YtchidgkpkhloeaaGreatDoorH9
set_option linter.all false
namespace Ab
open Go
section
def qJ:List Dim->Nat->List Int×Nat
 | [],n=>([],n)
 | d :: r,n=>(((((qJ r n).2 % d.members.length:Nat)):Int) :: (qJ r n).1,(qJ r n).2 / d.members.length)
def zfO (o:List Dim) (n:Nat):(qJ o n).1.length=o.length:=by
 induction o with
 | nil=>rfl
 | cons d r ih=>simp[qJ,ih]
def digs_le (o:List Dim) (n:Nat):(qJ o n).2<=n:=by
 induction o with
 | nil=>exact AO _
 | cons d r ih=>simp only[qJ];exact Aw (Nat.div_le_self _ _) ih
def set_rep (k:Nat) (x:Int) (l:List Int):(List.replicate (k+1) (0:Int)++l).set k x=List.replicate k 0++x :: l:=by
 induction k with
 | zero=>rfl
 | succ k ih=>rw[List.replicate_succ,AF,C1,ih];rfl
def zkg (o:List Dim) (n:Nat) (hl:o.length<=1000) (hn:n<=1000000000) (hp:∀ d∈o,0 < d.members.length∧d.members.length<=1000000):P69 o (n:Int)=some (qJ o n).1:=by
 have aH:(0:Int)<=(o.length:Int)∧(o.length:Int)<=(o.length:Int)∧(o.length:Int)<=zu:=by unfold zu;omega
 have hs:=zH (B:=zfe o) (fun k=>((((qJ (o.drop (o.length - k)) n).2:Nat):Int),((o.length:Int) - k - 1,List.replicate (o.length - k) (0:Int)++(qJ (o.drop (o.length - k)) n).1))) o.length (fun k hk=>by
  obtain ⟨j,hj⟩:∃ j,o.length - k=j+1:=⟨o.length - k - 1,by omega⟩;have sa:o.length - (k+1)=j:=by omega
  have cH:j < o.length:=by omega
  have hd:=Aa cH;have nN:o.drop j=o[j] :: o.drop (j+1):=Ba cH;have aW:=hp o[j] (Ay cH);have hle:=digs_le (o.drop (j+1)) n;have ei:(o.length:Int) - (k:Int) - 1=(j:Int):=by omega
  have ei2:(o.length:Int) - ((k+1:Nat):Int) - 1=(j:Int) - 1:=by omega
  have h0:(0:Int)<=(j:Int):=by omega
  have ai:¬ ((o[j].members.length:Nat):Int)=0:=by omega
  simp only[hj,sa,ei,ei2,nN,qJ];have hlen:(List.replicate (j+1) (0:Int)++(qJ (o.drop (j+1)) n).1).length=o.length:=by simp[zfO];omega
  have sE:(0:Int)<=(j:Int)∧(j:Int) < (((List.replicate (j+1) (0:Int)++(qJ (o.drop (j+1)) n).1).length:Nat):Int):=by rw[hlen];omega
  have ba:(List.replicate (j+1) (0:Int)++(qJ (o.drop (j+1)) n).1)[j]? = some 0:=(by rw[AE (by simp),Bv];simp);simp only[zfe,h0,decide_true,zo,za,hd,zi,ai,not_false_eq_true,ck_true,sE.2,true_and,Aj,ba,set_rep,qQ];have ediv:Int.tdiv (((qJ (o.drop (j+1)) n).2:Nat):Int) ((o[j].members.length:Nat):Int)=(((qJ (o.drop (j+1)) n).2 / o[j].members.length:Nat):Int):=rfl;have emod:Int.tmod (((qJ (o.drop (j+1)) n).2:Nat):Int) ((o[j].members.length:Nat):Int)=(((qJ (o.drop (j+1)) n).2 % o[j].members.length:Nat):Int):=rfl;have hdl:=Nat.div_le_self (qJ (o.drop (j+1)) n).2 o[j].members.length;rw[ediv,emod];clear ediv emod;generalize (qJ (o.drop (j+1)) n).2 / o[j].members.length=q at hdl ⊢;rw[qp (n:=(q:Int)) (by omega) (by omega),qp (by omega) (by omega)])
 have e0:o.drop (o.length - 0)=[]:=by simp
 have e1:o.drop (o.length - o.length)=o:=by simp
 simp only[e0,e1] at hs;simp only[B6,CY,AL,CO,qJ,BV] at hs;have cV:lpO (zfe o) ((n:Int),((o.length:Int) - 1,List.replicate o.length (0:Int)))=some (.inl ((((qJ o n).2:Nat):Int),(-1,(qJ o n).1))):=by
  have ea:(o.length:Int) - ((0:Nat):Int) - 1=(o.length:Int) - 1:=by omega
  have eb:(o.length:Int) - ((o.length:Nat):Int) - 1 = -1:=by omega
  rw[ea,eb] at hs;exact hs.trans (zI (by simp[zfe]))
 simp only[P69,S69,zp aH,zV,Aj,BN];rw[qp (by omega) (by omega),cV];rfl
def badM (x:Int×Dim):Bool:=decide (x.1 < 0) || decide ((x.2.members.length:Int)<=x.1)
def zaP (o:List Dim) (p:List Int):Int:=if ¬ p.length=o.length then 3 else if (p.zip o).any badM=true then 1 else 0
structure Fit (o:List Dim) (p:List Int):Prop where
 len:p.length=o.length
 mem:∀ (i:Nat) (m:Int) (d:Dim),p[i]? = some m->o[i]? = some d->0<=m∧m < d.members.length
def zfL {o:List Dim} {p:List Int}:zaP o p=0↔Fit o p:=by
 unfold zaP;by_cases h1:p.length=o.length
 ·rw[if_neg (by simpa using h1)];by_cases h2:(p.zip o).any badM=true
  ·rw[if_pos h2];refine ⟨fun e=>(by cases e),fun h => ?_⟩;obtain ⟨x,hx,hb⟩:=B5.1 h2;obtain ⟨i,hi⟩:=AB.1 hx;obtain ⟨e1,e2⟩:=Bk.1 hi;have:=h.mem i _ _ e1 e2;simp only[badM,B0,decide_eq_true_eq] at hb;omega
  ·rw[if_neg h2];refine ⟨fun _=>⟨h1,fun i m d hm hd => ?_⟩,fun _=>rfl⟩;have hx:(m,d)∈p.zip o:=AB.2 ⟨i,Bk.2 ⟨hm,hd⟩⟩;have:¬ badM (m,d)=true:=fun e=>h2 (B5.2 ⟨_,hx,e⟩);simp only[badM,B0,decide_eq_true_eq] at this;omega
 ·rw[if_pos h1];exact ⟨fun e=>(by cases e),fun h=>absurd h.len h1⟩
def P58_eq (o:List Dim) (p:List Int) (h:p.length<=9223372036854775807):P58 o p=some (zB (zaP o p)):=by
 simp only[P58,S58];unfold zaP;by_cases h1:p.length=o.length
 ·have e:((p.length:Nat):Int)=((o.length:Nat):Int):=by omega
  rw[if_neg (by simpa using h1)];simp only[e,not_true,decide_false,zd];rw[wK badM (p.zip o) (Err.no 1) Err.nil (fun i y hy => ?_) (by rw[Cj,← h1,CA];simp[S58_L1])]
  ·cases (p.zip o).any badM<;>simp[zB]
  ·obtain ⟨e1,e2⟩:=Bk.1 hy;have hi:=(Ac.1 e1).1;have e:((i:Nat):Int) < ((p.length:Nat):Int):=by omega
   simp only[S58_L1,e,decide_true,zo,za,e1,e2,zi,badM];rw[qp (by omega) (by omega)];by_cases c1:y.1 < 0
   ·simp[c1]
   ·by_cases c2:(y.2.members.length:Int)<=y.1<;>simp[c1,c2]
 ·have e:¬ ((p.length:Nat):Int)=((o.length:Nat):Int):=by omega
  rw[if_pos h1];simp[e,zB]
def zcW (o:List Dim) (p:List Int):Bool:=(p.zip o).all fun x=>wU x.2.members x.1.toNat
def all_any {α:Type} (f:α->Bool) (l:List α):l.all f = !l.any fun x => !f x:=by
 induction l with
 | nil=>rfl
 | cons a l ih=>simp only[Bo,CM,ih];cases f a<;>rfl
def P59_eq {o:List Dim} {p:List Int} (hf:Fit o p) (h:p.length<=9223372036854775807) (hd:∀ d∈o,d.members.length<=1000):P59 o p=some (zcW o p):=by
 simp only[P59,S59];rw[wK (fun x:Int×Dim => !wU x.2.members x.1.toNat) (p.zip o) false true (fun i y hy => ?_) (by rw[Cj,← hf.len,CA];simp[S59_L1])]
 ·rw[zcW,all_any];cases (p.zip o).any fun x => !wU x.2.members x.1.toNat<;>rfl
 ·obtain ⟨e1,e2⟩:=Bk.1 hy;have hi:=(Ac.1 e1).1;have e:((i:Nat):Int) < ((p.length:Nat):Int):=by omega
  have hm:=hf.mem i _ _ e1 e2;have hl:=hd _ (Ae e2);obtain ⟨k,hk⟩:=CN hm.1;rw[hk] at hm e1;simp only[S59_L1,e,decide_true,zo,za,e1,e2,zi,hk,P44_eq hl (by omega:k < y.2.members.length),Aj];rw[qp (by omega) (by omega)];cases wU y.2.members k<;>rfl
def numW (o:List Dim) (p:List Int):Int:=(p.zip o).foldl (fun n x=>wi (wi (n * (x.2.members.length:Int))+x.1)) 0
def P49_eq {o:List Dim} {p:List Int} (hl:p.length=o.length) (h:p.length<=9223372036854775807):P49 o p=some (numW o p):=by
 have hz:(p.zip o).length=p.length:=by rw[Cj,← hl,CA]
 have hs:=zH (B:=zec o p) (fun i=>(((p.zip o).take i).foldl (fun n x=>wi (wi (n * (x.2.members.length:Int))+x.1)) 0,(i:Int))) p.length (fun i hi=>by
  have e:((i:Nat):Int) < ((p.length:Nat):Int):=by omega
  have hx:(p.zip o)[i]? = some (p[i],o[i]'(by omega)):=Bk.2 ⟨Aa hi,Aa (by omega)⟩;simp only[zec,e,decide_true,zo,za,Aa hi,Aa (by omega:i < o.length),zi,qQ];rw[qp (n:=(i:Int)+1) (by omega) (by omega),jq _ _ _ hx];rfl)
 have ht:(p.zip o).take p.length=p.zip o:=by rw[← hz,AZ]
 rw[ht] at hs;have hs:lpO (zec o p) (0,0)=some (.inl (numW o p,(p.length:Int))):=hs.trans (zI (by simp[zec,numW]));simp only[P49,S49,zV,hs,zX]
end
section
def cmpL:List Int->List Int->Int
 | [],[]=>0
 | [],_ :: _ => -1
 | _ :: _,[]=>1
 | x :: a,y :: b=>if x < y then -1 else if y < x then 1 else cmpL a b
def P81_eq (a b:Int):P81 a b=some (if a < b then -1 else if b < a then 1 else 0):=by
 have e:∀ n:Int,P84 n=some false:=fun n=>by simp[P84,S84]
 simp only[P81,S81,e,zi,zd];by_cases h1:a < b
 ·simp[h1]
 ·by_cases h2:b < a<;>simp[h1,h2]
def cmp_loop (a b:List Int) (h:a.length<=9223372036854775807):∀ (n i:Nat),a.length - i=n->i<=a.length->i<=b.length->jn (lpO (zfd P81 a b) (i:Int)) (fun _=>br (decide (((List.length a:Nat):Int) < ((List.length b:Nat):Int))) (some (-1:Int)) (some (0:Int)))=some (cmpL (a.drop i) (b.drop i)):=by
 intro n
 induction n with
 | zero =>
  intro i hi hl hb;obtain rfl:i=a.length:=by omega
  rw[zI (y:=(a.length:Int)) (by simp[zfd])];rw[List.drop_length];simp only[zX];by_cases ae:a.length < b.length
  ·have e:((a.length:Nat):Int) < ((b.length:Nat):Int):=by omega
   rw[Ba ae];simp[e,cmpL]
  ·have e:¬ ((a.length:Nat):Int) < ((b.length:Nat):Int):=by omega
   rw[B7 (by omega)];simp[e,cmpL]
 | succ n ih =>
  intro i hi hl hb;have kF:i < a.length:=by omega
  have e:((i:Nat):Int) < ((a.length:Nat):Int):=by omega
  rw[Ba kF];by_cases iS:i < b.length
  ·have e2:¬ ((b.length:Nat):Int)<=((i:Nat):Int):=by omega
   rw[Ba iS];simp only[cmpL];have hB:zfd P81 a b (i:Int)=some (if a[i] < b[i] then .fin (-1) else if b[i] < a[i] then .fin 1 else .nx ((i:Int)+1)):=by
    simp only[zfd,e,e2,decide_true,decide_false,zo,zd,za,Aa kF,Aa iS,zi,P81_eq];rw[qp (by omega) (by omega)];by_cases c1:a[i] < b[i]
    ·simp[c1]
    ·by_cases c2:b[i] < a[i]<;>simp[c1,c2]
   by_cases c1:a[i] < b[i]
   ·rw[if_pos c1] at hB ⊢;rw[zac hB];rfl
   ·rw[if_neg c1] at hB ⊢;by_cases c2:b[i] < a[i]
    ·rw[if_pos c2] at hB ⊢;rw[zac hB];rfl
    ·rw[if_neg c2] at hB ⊢;rw[wg hB];exact ih (i+1) (by omega) (by omega) (by omega)
  ·have e2:((b.length:Nat):Int)<=((i:Nat):Int):=by omega
   rw[B7 (by omega:b.length<=i),zac (a:=(1:Int)) (by simp[zfd,e,e2,za,kF])];rfl
def P74_eq (a b:List Int) (h:a.length<=9223372036854775807):P74 a b=some (cmpL a b):=by simp only[P74,S74,zV];exact cmp_loop a b h a.length 0 (by omega) (BB _) (BB _)
def zkh (a b:Entry) (h:a.at_.length<=9223372036854775807):P61 a b=some (cmpL a.at_ b.at_):=by simp[P61,S61,P74_eq _ _ h]
def zbR (n:Int):Bool:=decide (-1000000<=n) && decide (n<=1000000)
def P60_eq (n:Int):P60 n=some (zbR n):=by simp[P60,S60,zbR]
def wo (o:List Dim) (l:List Entry) (i:Nat) (e:Entry):Int :=
 if ¬ zaP o e.at_=0 then zaP o e.at_ else if zcW o e.at_=false then 6 else if zbR e.n=false then 1
 else match i with | 0=>0 | j+1=>match l[j]? with | some e0=>if 0<=cmpL e0.at_ e.at_ then 7 else 0 | none=>0
def ziA (o:List Dim) (l:List Entry):Int :=
 if ¬ (ja o).2.2=0 then (ja o).2.2 else match (List.range l.length).findSome? fun i=>match l[i]? with | some e=>if wo o l i e=0 then none else some (wo o l i e) | none=>none with
 | some e=>e
 | none=>0
def P27_eq (o:List Dim) (l:List Entry) (hl:Lst Entry.gd l):P27 o l=some (zB (ziA o l)):=by
 simp only[P27,S27,P51_eq,zi,zW];unfold ziA;by_cases h0:(ja o).2.2=0
 case neg=>simp[h0]
 have ok:=zbs.1 h0;have dt:∀ d∈o,d.members.length<=1000:=fun d hd=>by have:=(ok.dims d hd).len;omega
 have hlen:=hl.1;rw[if_neg (by simpa using h0)];simp only[h0,decide_true,Bm,zd];have:=jj (B:=zkb P58 P59 P60 P61 o l) l.length (fun i=>match l[i]? with
  | some e=>if wo o l i e=0 then none else some (zB (wo o l i e))
  | none=>none) (fun i hi=>by
   have e:((i:Nat):Int) < ((l.length:Nat):Int):=by omega
   have hm:=Aa hi;have hg:=hl.2 _ (Ay hi);generalize l[i]=x at hm hg;have aq:x.at_.length<=9223372036854775807:=hg.1.1;simp only[zkb,e,decide_true,zo,za,hm,zi,P58_eq o _ aq,zW];rw[qp (n:=(i:Int)+1) (by omega) (by omega)];by_cases c1:zaP o x.at_=0
   case neg =>
    have hE:wo o l i x=zaP o x.at_:=by unfold wo;rw[if_pos c1]
    simp[hE,c1]
   have hf:=zfL.1 c1;have gz:¬ ¬ zaP o x.at_=0:=fun h=>h c1;simp only[c1,decide_true,Bm,zd,P59_eq hf aq dt,zi,P60_eq];cases c2:zcW o x.at_ with
   | false =>
    have hE:wo o l i x=6:=by unfold wo;rw[if_neg gz,if_pos c2]
    simp[hE,zB]
   | true =>
    have dP:¬ zcW o x.at_=false:=by rw[c2];simp
    cases c3:zbR x.n with
    | false =>
     have hE:wo o l i x=1:=by unfold wo;rw[if_neg gz,if_neg dP,if_pos c3]
     simp[hE,zB]
    | true =>
     have kl:¬ zbR x.n=false:=by rw[c3];simp
     simp only[Bm,zd];cases i with
     | zero =>
      have hE:wo o l 0 x=0:=by unfold wo;rw[if_neg gz,if_neg dP,if_neg kl]
      simp[hE]
     | succ j =>
      have hj:j < l.length:=by omega
      have ej:=Aa hj;have sj:=hl.2 _ (Ay hj);have hE:wo o l (j+1) x=if 0<=cmpL l[j].at_ x.at_ then 7 else 0:=by unfold wo;rw[if_neg gz,if_neg dP,if_neg kl];simp only[ej]
      have e0:(0:Int) < ((j+1:Nat):Int):=by omega
      have e1:((j+1:Nat):Int) - 1=(j:Int):=by omega
      simp only[e0,decide_true,zo,e1];rw[qp (n:=(j:Int)) (by omega) (by omega)];simp only[za,ej,zi,zkh _ _ sj.1.1,hE];by_cases c4:0<=cmpL l[j].at_ x.at_<;>simp[c4,zB]) (by simp[zkb])
 unfold lp;rw[this];have e2:((List.range l.length).findSome? fun i=>match l[i]? with
  | some e=>if wo o l i e=0 then none else some (zB (wo o l i e))
  | none=>none)=((List.range l.length).findSome? fun i=>match l[i]? with | some e=>if wo o l i e=0 then none else some (wo o l i e) | none=>none).map zB:=by
  rw[← zZ];congr 1;funext i;cases l[i]? with
  | none=>rfl
  | some m=>by_cases h:wo o l i m=0<;>simp[h]
 rw[e2];cases ((List.range l.length).findSome? fun i=>match l[i]? with | some e=>if wo o l i e=0 then none else some (wo o l i e) | none=>none) with
 | none=>simp[zB]
 | some r=>rfl
structure EntsOk (o:List Dim) (l:List Entry):Prop where
 out:OutOk o
 fit:∀ e∈l,Fit o e.at_
 leaf:∀ e∈l,zcW o e.at_=true
 val:∀ e∈l,zbR e.n=true
 rise:∀ (i:Nat) (a b:Entry),l[i]? = some a->l[i+1]? = some b->cmpL a.at_ b.at_ < 0
def ents_ok {o:List Dim} {l:List Entry}:ziA o l=0↔EntsOk o l:=by
 unfold ziA;by_cases h0:(ja o).2.2=0
 case neg=>rw[if_pos h0];exact ⟨fun e=>absurd e h0,fun e=>absurd (zbs.2 e.out) h0⟩
 rw[if_neg (by simpa using h0)];cases hm:(List.range l.length).findSome? fun i=>match l[i]? with | some e=>if wo o l i e=0 then none else some (wo o l i e) | none=>none with
 | some r =>
  obtain ⟨i,hi,hr⟩:=Ax hm;have hi:i < l.length:=by simpa using hi
  rw[Aa hi] at hr;simp only at hr;split at hr
  ·cases hr
  ·rename_i ai;cases hr;refine ⟨fun h=>absurd h ai,fun h=>absurd ?_ ai⟩;have aM:=Ay hi;unfold wo;rw[if_neg (by simpa using zfL.2 (h.fit _ aM)),if_neg (by simp[h.leaf _ aM]),if_neg (by simp[h.val _ aM])];cases i with
   | zero=>rfl
   | succ j =>simp only;rw[Aa (by omega:j < l.length)];have:=h.rise j _ _ (Aa (by omega:j < l.length)) (Aa hi);simp only;rw[if_neg (by omega)]
 | none =>
  have hn:=A8.1 hm;have each:∀ (i:Nat) (e:Entry),l[i]? = some e->wo o l i e=0:=by
   intro i e hi;have aA:=(Ac.1 hi).1;have:=hn i (by simpa using aA);rw[hi] at this;simp only at this;split at this
   ·assumption
   ·cases this
  have parts:∀ (i:Nat) (e:Entry),l[i]? = some e->zaP o e.at_=0∧zcW o e.at_=true∧zbR e.n=true∧∀ j e0,i=j+1->l[j]? = some e0->cmpL e0.at_ e.at_ < 0:=by
   intro i e hi;have:=each i e hi;unfold wo at this;by_cases c1:zaP o e.at_=0
   case neg=>rw[if_pos c1] at this;exact absurd this c1
   rw[if_neg (by simpa using c1)] at this;by_cases c2:zcW o e.at_=false
   ·rw[if_pos c2] at this;cases this
   rw[if_neg c2] at this;by_cases c3:zbR e.n=false
   ·rw[if_pos c3] at this;cases this
   rw[if_neg c3] at this;refine ⟨c1,by simpa using c2,by simpa using c3,fun j e0 hj kE => ?_⟩;subst hj;simp only[kE] at this;split at this
   ·cases this
   ·omega
  refine ⟨fun _=>⟨zbs.1 h0,fun e he => ?_,fun e he => ?_,fun e he => ?_,fun i a b ha hb=>(parts _ _ hb).2.2.2 i a rfl ha⟩,fun _=>rfl⟩
  ·obtain ⟨i,hi⟩:=AB.1 he;exact zfL.1 (parts i e hi).1
  ·obtain ⟨i,hi⟩:=AB.1 he;exact (parts i e hi).2.1
  ·obtain ⟨i,hi⟩:=AB.1 he;exact (parts i e hi).2.2.1
end
section
def sizeN (o:List Dim):Nat:=o.foldr (fun d n=>d.members.length * n) 1
def digs_size (o:List Dim) (hp:∀ d∈o,0 < d.members.length):∀ (q s:Nat),s < sizeN o->qJ o (q * sizeN o+s)=((qJ o s).1,q):=by
 induction o with
 | nil=>intro q s hs;simp[sizeN] at hs;subst hs;simp[qJ,sizeN]
 | cons d r ih =>
  intro q s hs;have e9:∀ x∈r,0 < x.members.length:=fun x hx=>hp x (Af _ hx);have hd:=hp d Ap;have hS:sizeN (d :: r)=d.members.length * sizeN r:=rfl;have hSr:0 < sizeN r:=by
   cases h:sizeN r with
   | zero=>rw[hS,h] at hs;simp at hs
   | succ=>omega
  rw[hS] at hs ⊢;have aw:s=(s / sizeN r) * sizeN r+s % sizeN r:=by rw[Cz];exact (Nat.div_add_mod s (sizeN r)).symm
  have cV:s % sizeN r < sizeN r:=CP _ hSr;have tF:s / sizeN r < d.members.length:=Nat.div_lt_of_lt_mul (by rw[Cz];exact hs);have e1:q * (d.members.length * sizeN r)+s=(q * d.members.length+s / sizeN r) * sizeN r+s % sizeN r:=(by rw[Bd,CJ,Br];omega);have d1:=ih e9 (q * d.members.length+s / sizeN r) (s % sizeN r) cV;have d2:=ih e9 (s / sizeN r) (s % sizeN r) cV;rw[← e1] at d1;rw[← aw] at d2;simp only[qJ,d1,d2];rw[Nat.add_comm (q * d.members.length),Nat.add_mul_mod_self_right,Nat.mod_eq_of_lt tF,Nat.add_mul_div_right _ _ hd,Nat.div_eq_of_lt tF,Bg]
def allIn {α:Type}:List (α->Bool)->List α->Bool
 | f :: fs,x :: xs=>f x && allIn fs xs
 | _,_=>true
end
section
def size_fold:∀ (o:List Dim) (n:Nat),(∀ d∈o,0 < d.members.length)->n * sizeN o<=1000000000->o.foldl (fun n d=>wi (n * ((d.members.length:Nat):Int))) (n:Int)=((n * sizeN o:Nat):Int)
 | [],n,_,_=>by simp[sizeN]
 | d :: r,n,hp,hb=>by
  have hS:sizeN (d :: r)=d.members.length * sizeN r:=rfl;have e9:∀ x∈r,0 < x.members.length:=fun x hx=>hp x (Af _ hx);rw[hS,← CJ] at hb;have hr:0 < sizeN r:=by
   clear hb hS hp
   induction r with
   | nil=>simp[sizeN]
   | cons a r ih =>have h1:=e9 a Ap;have h2:=ih fun x hx=>e9 x (Af _ hx);show 0 < a.members.length * sizeN r;exact Nat.mul_pos h1 h2
  have cA:n * d.members.length<=1000000000:=Aw (Nat.le_mul_of_pos_right _ hr) hb;have hw:wi ((n:Int) * ((d.members.length:Nat):Int))=((n * d.members.length:Nat):Int):=(by rw[← Int.natCast_mul,qp (by omega) (by omega)]);rw[Bf,hw,size_fold r _ e9 hb,hS,← CJ]
def size_le:∀ (o:List Dim),(∀ d∈o,d.members.length<=12)->sizeN o<=12 ^ o.length
 | [],_=>by simp[sizeN]
 | d :: r,h=>by
  have h1:=h d Ap;have h2:=size_le r fun x hx=>h x (Af _ hx);show d.members.length * sizeN r<=_;rw[AM,C3,Cz];exact B8 h2 h1
def pow_le {n:Nat} (h:n<=4):12 ^ n<=20736:=by have:(12:Nat) ^ n<=12 ^ 4:=BQ (by omega) h;simpa using this
def OutOk.sizeN {o:List Dim} (ok:OutOk o):zcS o=(sizeN o:Nat)∧Ab.sizeN o<=20736:=by have h1:=size_le o fun d hd=>(ok.dims d hd).len.2;have h2:=pow_le ok.len.2;refine ⟨?_,by omega⟩;have:=size_fold o 1 (fun d hd=>(ok.dims d hd).len.1) (by omega);rw[Nat.one_mul] at this;exact this
def j9 {o:List Dim} (ok:OutOk o) (n:Nat):Fit o (qJ o n).1:=by
 have hp:∀ d∈o,0 < d.members.length:=fun d hd=>(ok.dims d hd).len.1;refine ⟨zfO o n, ?_⟩;clear ok
 induction o with
 | nil=>intro i m d h;simp[qJ] at h
 | cons d r ih =>
  intro i m e hm he;cases i with
  | zero =>simp only[qJ,BU,Option.some.injEq] at hm he;subst hm;subst he;have:=CP (qJ r n).2 (hp d Ap);omega
  | succ i =>simp only[qJ,A7] at hm he;exact ih (fun x hx=>hp x (Af _ hx)) i m e hm he
def wn:List Dim->List Int->Nat
 | _ :: o,m :: p=>m.toNat * sizeN o+wn o p
 | _,_=>0
def Fit.tail {d:Dim} {o:List Dim} {m:Int} {p:List Int} (h:Fit (d :: o) (m :: p)):(0<=m∧m < d.members.length)∧Fit o p :=
 ⟨h.mem 0 m d rfl rfl,by simpa using h.len,fun i m' d' hm hd=>h.mem (i+1) m' d' (by simpa using hm) (by simpa using hd)⟩
def zbt:∀ {o:List Dim} {p:List Int},Fit o p->wn o p < sizeN o
 | [],[],_=>by simp[wn,sizeN]
 | [],_ :: _,h=>by have:=h.len;simp at this
 | _ :: _,[],h=>by have:=h.len;simp at this
 | d :: o,m :: p,h=>by
  obtain ⟨h1,h2⟩:=h.tail;have:=zbt h2;have e:sizeN (d :: o)=d.members.length * sizeN o:=rfl;have h3:(m.toNat+1) * sizeN o<=d.members.length * sizeN o:=AJ _ (by omega);rw[Bd] at h3;simp only[wn,e];omega
def wy:∀ {o:List Dim} {p:List Int},(∀ d∈o,0 < d.members.length)->Fit o p->qJ o (wn o p)=(p,0)
 | [],[],_,_=>rfl
 | [],_ :: _,_,h=>by have:=h.len;simp at this
 | _ :: _,[],_,h=>by have:=h.len;simp at this
 | d :: o,m :: p,hp,h=>by
  obtain ⟨h1,h2⟩:=h.tail;have ot:∀ d∈o,0 < d.members.length:=fun x hx=>hp x (Af _ hx);have ih:=wy ot h2;have hd:=digs_size o ot m.toNat (wn o p) (zbt h2);have ae:m.toNat < d.members.length:=by omega
  simp only[wn,qJ,hd,ih,Nat.mod_eq_of_lt ae,Nat.div_eq_of_lt ae];rw[Cy h1.1]
def zjy:∀ (o:List Dim) (p:List Int) (n:Nat),(∀ d∈o,0 < d.members.length)->Fit o p->(n+1) * sizeN o<=1000000000 ->
  (p.zip o).foldl (fun n x=>wi (wi (n * (x.2.members.length:Int))+x.1)) (n:Int)=((n * sizeN o+wn o p:Nat):Int)
 | [],[],n,_,_,_=>by simp[sizeN,wn]
 | [],_ :: _,_,_,h,_=>by have:=h.len;simp at this
 | _ :: _,[],_,_,h,_=>by have:=h.len;simp at this
 | d :: o,m :: p,n,hp,h,hb=>by
  obtain ⟨h1,h2⟩:=h.tail;have ot:∀ d∈o,0 < d.members.length:=fun x hx=>hp x (Af _ hx);have e:sizeN (d :: o)=d.members.length * sizeN o:=rfl;have aW:0 < sizeN o:=by have:=zbt h2;omega
  have eJ:(n * d.members.length+m.toNat+1) * sizeN o<=(n+1) * (d.members.length * sizeN o):=(by rw[← CJ];refine AJ _ ?_;rw[Bd,Nat.one_mul];omega);rw[e] at hb;have hle:n * d.members.length+m.toNat+1<=1000000000:=Aw (Nat.le_mul_of_pos_right _ aW) (Aw eJ hb);have ih:=zjy o p (n * d.members.length+m.toNat) ot h2 (Aw eJ hb);simp only[List.zip_cons_cons,Bf];have e1:wi ((n:Int) * ((d.members.length:Nat):Int))=((n * d.members.length:Nat):Int):=by
   have e0:(n:Int) * ((d.members.length:Nat):Int)=((n * d.members.length:Nat):Int):=by simp
   rw[e0,qp (by omega) (by omega)]
  have e2:wi (((n * d.members.length:Nat):Int)+m)=((n * d.members.length+m.toNat:Nat):Int):=(by rw[qp (by omega) (by omega)];omega);rw[e1,e2,ih];congr 1;simp only[wn,e];rw[Bd,CJ,Br]
def zii {o:List Dim} {p:List Int} (ok:OutOk o) (h:Fit o p):numW o p=((wn o p:Nat):Int):=by have hp:∀ d∈o,0 < d.members.length:=fun d hd=>(ok.dims d hd).len.1;have hs:=ok.sizeN.2;have:=zjy o p 0 hp h (by omega);simpa[numW] using this
end
end Ab
