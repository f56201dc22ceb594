import Derived.Test.YtkaifdgeigdbhaaGreatDoorH9
open Nat (mul_assoc)
set_option linter.all false
namespace Ab
open Go
section
def jU:List Dim->Nat->List Int×Nat
 | [],n=>([],n)
 | d :: r,n=>(((((jU r n).2 % d.members.length:Nat)):Int) :: (jU r n).1,(jU r n).2 / d.members.length)
def zdy (o:List Dim) (n:Nat):(jU o n).1.length=o.length:=by
 induction o with
 | nil=>rfl
 | cons d r ih=>simp[jU,ih]
def digs_le (o:List Dim) (n:Nat):(jU o n).2<=n:=by
 induction o with
 | nil=>exact AG _
 | cons d r ih=>simp only[jU];exact AL (Nat.div_le_self _ _) ih
def set_rep (k:Nat) (x:Int) (l:List Int):(List.replicate (k+1) (0:Int)++l).set k x=List.replicate k 0++x :: l:=by
 induction k with
 | zero=>rfl
 | succ k ih=>rw[List.replicate_succ,AD,List.set_cons_succ,ih];rfl
def P69_eq (o:List Dim) (n:Nat) (hl:o.length<=1000) (hn:n<=1000000000) (hp:∀ d∈o,0 < d.members.length∧d.members.length<=1000000):P69 o (n:Int)=some (jU o n).1:=by
 have bC:(0:Int)<=(o.length:Int)∧(o.length:Int)<=(o.length:Int)∧(o.length:Int)<=zH:=by unfold zH;omega
 have hs:=zU (B:=zfG o) (fun k=>((((jU (o.drop (o.length - k)) n).2:Nat):Int),((o.length:Int) - k - 1,List.replicate (o.length - k) (0:Int)++(jU (o.drop (o.length - k)) n).1))) o.length (fun k hk=>by
  obtain ⟨j,hj⟩:∃ j,o.length - k=j+1:=⟨o.length - k - 1,by omega⟩;have nQ:o.length - (k+1)=j:=by omega
  have cM:j < o.length:=by omega
  have hd:=Aa cM;have lq:o.drop j=o[j] :: o.drop (j+1):=Bh cM;have bw:=hp o[j] (Ay cM);have hle:=digs_le (o.drop (j+1)) n;have ei:(o.length:Int) - (k:Int) - 1=(j:Int):=by omega
  have ei2:(o.length:Int) - ((k+1:Nat):Int) - 1=(j:Int) - 1:=by omega
  have h0:(0:Int)<=(j:Int):=by omega
  have ak:¬ ((o[j].members.length:Nat):Int)=0:=by omega
  simp only[hj,nQ,ei,ei2,lq,jU];have hlen:(List.replicate (j+1) (0:Int)++(jU (o.drop (j+1)) n).1).length=o.length:=by simp[zdy];omega
  have oi:(0:Int)<=(j:Int)∧(j:Int) < (((List.replicate (j+1) (0:Int)++(jU (o.drop (j+1)) n).1).length:Nat):Int):=by rw[hlen];omega
  have bj:(List.replicate (j+1) (0:Int)++(jU (o.drop (j+1)) n).1)[j]? = some 0:=(by rw[AJ (by simp),Cj];simp);simp only[zfG,h0,decide_true,zg,zb,hd,zk,ak,not_false_eq_true,jf,oi.2,true_and,Am,bj,set_rep,qR];have ediv:Int.tdiv (((jU (o.drop (j+1)) n).2:Nat):Int) ((o[j].members.length:Nat):Int)=(((jU (o.drop (j+1)) n).2 / o[j].members.length:Nat):Int):=rfl;have emod:Int.tmod (((jU (o.drop (j+1)) n).2:Nat):Int) ((o[j].members.length:Nat):Int)=(((jU (o.drop (j+1)) n).2 % o[j].members.length:Nat):Int):=rfl;have lr:=Nat.div_le_self (jU (o.drop (j+1)) n).2 o[j].members.length;rw[ediv,emod];clear ediv emod;generalize (jU (o.drop (j+1)) n).2 / o[j].members.length=q at lr ⊢;rw[zJ (n:=(q:Int)) (by omega) (by omega),zJ (by omega) (by omega)])
 have e0:o.drop (o.length - 0)=[]:=by simp
 have e1:o.drop (o.length - o.length)=o:=by simp
 simp only[e0,e1] at hs;simp only[CB,List.replicate_zero,AE,CA,jU,Bg] at hs;have ez:lpO (zfG o) ((n:Int),((o.length:Int) - 1,List.replicate o.length (0:Int)))=some (.inl ((((jU o n).2:Nat):Int),(-1,(jU o n).1))):=by
  have ea:(o.length:Int) - ((0:Nat):Int) - 1=(o.length:Int) - 1:=by omega
  have eb:(o.length:Int) - ((o.length:Nat):Int) - 1 = -1:=by omega
  rw[ea,eb] at hs;exact hs.trans (zD (by simp[zfG]))
 simp only[P69,S69,zw bC,zO,Am,BX];rw[zJ (by omega) (by omega),ez];rfl
def badM (x:Int×Dim):Bool:=decide (x.1 < 0) || decide ((x.2.members.length:Int)<=x.1)
def yP (o:List Dim) (p:List Int):Int:=if ¬ p.length=o.length then 3 else if (p.zip o).any badM=true then 1 else 0
structure Fit (o:List Dim) (p:List Int):Prop where
 len:p.length=o.length
 mem:∀ (i:Nat) (m:Int) (d:Dim),p[i]? = some m->o[i]? = some d->0<=m∧m < d.members.length
def wX {o:List Dim} {p:List Int}:yP o p=0↔Fit o p:=by
 unfold yP;by_cases h1:p.length=o.length
 ·rw[if_neg (by simpa using h1)];by_cases h2:(p.zip o).any badM=true
  ·rw[if_pos h2];refine ⟨fun e=>(by cases e),fun h => ?_⟩;obtain ⟨x,hx,hb⟩:=B6.1 h2;obtain ⟨i,hi⟩:=AA.1 hx;obtain ⟨e1,e2⟩:=AX.1 hi;have:=h.mem i _ _ e1 e2;simp only[badM,B0,decide_eq_true_eq] at hb;omega
  ·rw[if_neg h2];refine ⟨fun _=>⟨h1,fun i m d hm hd => ?_⟩,fun _=>rfl⟩;have hx:(m,d)∈p.zip o:=AA.2 ⟨i,AX.2 ⟨hm,hd⟩⟩;have:¬ badM (m,d)=true:=fun e=>h2 (B6.2 ⟨_,hx,e⟩);simp only[badM,B0,decide_eq_true_eq] at this;omega
 ·rw[if_pos h1];exact ⟨fun e=>(by cases e),fun h=>absurd h.len h1⟩
def P58_eq (o:List Dim) (p:List Int) (h:p.length<=9223372036854775807):P58 o p=some (zA (yP o p)):=by
 simp only[P58,S58];unfold yP;by_cases h1:p.length=o.length
 ·have e:((p.length:Nat):Int)=((o.length:Nat):Int):=by omega
  rw[if_neg (by simpa using h1)];simp only[e,not_true,decide_false,za];rw[w8 badM (p.zip o) (Err.no 1) Err.nil (fun i y hy => ?_) (by rw[BS,← h1,Cl];simp[S58_L1])]
  ·cases (p.zip o).any badM<;>simp[zA]
  ·obtain ⟨e1,e2⟩:=AX.1 hy;have hi:=(Ac.1 e1).1;have e:((i:Nat):Int) < ((p.length:Nat):Int):=by omega
   simp only[S58_L1,e,decide_true,zg,zb,e1,e2,zk,badM];rw[zJ (by omega) (by omega)];by_cases c1:y.1 < 0
   ·simp[c1]
   ·by_cases c2:(y.2.members.length:Int)<=y.1<;>simp[c1,c2]
 ·have e:¬ ((p.length:Nat):Int)=((o.length:Nat):Int):=by omega
  rw[if_pos h1];simp[e,zA]
def wF (o:List Dim) (p:List Int):Bool:=(p.zip o).all fun x=>zap x.2.members x.1.toNat
def all_any {α:Type} (f:α->Bool) (l:List α):l.all f = !l.any fun x => !f x:=by
 induction l with
 | nil=>rfl
 | cons a l ih=>simp only[A9,Ct,ih];cases f a<;>rfl
def P59_eq {o:List Dim} {p:List Int} (hf:Fit o p) (h:p.length<=9223372036854775807) (hd:∀ d∈o,d.members.length<=1000):P59 o p=some (wF o p):=by
 simp only[P59,S59];rw[w8 (fun x:Int×Dim => !zap x.2.members x.1.toNat) (p.zip o) false true (fun i y hy => ?_) (by rw[BS,← hf.len,Cl];simp[S59_L1])]
 ·rw[wF,all_any];cases (p.zip o).any fun x => !zap x.2.members x.1.toNat<;>rfl
 ·obtain ⟨e1,e2⟩:=AX.1 hy;have hi:=(Ac.1 e1).1;have e:((i:Nat):Int) < ((p.length:Nat):Int):=by omega
  have hm:=hf.mem i _ _ e1 e2;have hl:=hd _ (Ad e2);obtain ⟨k,hk⟩:=Bx hm.1;rw[hk] at hm e1;simp only[S59_L1,e,decide_true,zg,zb,e1,e2,zk,hk,P44_eq hl (by omega:k < y.2.members.length),Am];rw[zJ (by omega) (by omega)];cases zap y.2.members k<;>rfl
end
section
def cmpL:List Int->List Int->Int
 | [],[]=>0
 | [],_ :: _ => -1
 | _ :: _,[]=>1
 | x :: a,y :: b=>if x < y then -1 else if y < x then 1 else cmpL a b
def P81_eq (a b:Int):P81 a b=some (if a < b then -1 else if b < a then 1 else 0):=by
 have e:∀ n:Int,P84 n=some false:=fun n=>by simp[P84,S84]
 simp only[P81,S81,e,zk,za];by_cases h1:a < b
 ·simp[h1]
 ·by_cases h2:b < a<;>simp[h1,h2]
def cmp_loop (a b:List Int) (h:a.length<=9223372036854775807):∀ (n i:Nat),a.length - i=n->i<=a.length->i<=b.length->jn (lpO (zfF P81 a b) (i:Int)) (fun _=>br (decide (((List.length a:Nat):Int) < ((List.length b:Nat):Int))) (some (-1:Int)) (some (0:Int)))=some (cmpL (a.drop i) (b.drop i)):=by
 intro n
 induction n with
 | zero =>
  intro i hi hl hb;obtain rfl:i=a.length:=by omega
  rw[zD (y:=(a.length:Int)) (by simp[zfF])];rw[List.drop_length];simp only[zN];by_cases ae:a.length < b.length
  ·have e:((a.length:Nat):Int) < ((b.length:Nat):Int):=by omega
   rw[Bh ae];simp[e,cmpL]
  ·have e:¬ ((a.length:Nat):Int) < ((b.length:Nat):Int):=by omega
   rw[B9 (by omega)];simp[e,cmpL]
 | succ n ih =>
  intro i hi hl hb;have kl:i < a.length:=by omega
  have e:((i:Nat):Int) < ((a.length:Nat):Int):=by omega
  rw[Bh kl];by_cases iF:i < b.length
  ·have e2:¬ ((b.length:Nat):Int)<=((i:Nat):Int):=by omega
   rw[Bh iF];simp only[cmpL];have hB:zfF P81 a b (i:Int)=some (if a[i] < b[i] then .fin (-1) else if b[i] < a[i] then .fin 1 else .nx ((i:Int)+1)):=by
    simp only[zfF,e,e2,decide_true,decide_false,zg,za,zb,Aa kl,Aa iF,zk,P81_eq];rw[zJ (by omega) (by omega)];by_cases c1:a[i] < b[i]
    ·simp[c1]
    ·by_cases c2:b[i] < a[i]<;>simp[c1,c2]
   by_cases c1:a[i] < b[i]
   ·rw[if_pos c1] at hB ⊢;rw[jc hB];rfl
   ·rw[if_neg c1] at hB ⊢;by_cases c2:b[i] < a[i]
    ·rw[if_pos c2] at hB ⊢;rw[jc hB];rfl
    ·rw[if_neg c2] at hB ⊢;rw[z6 hB];exact ih (i+1) (by omega) (by omega) (by omega)
  ·have e2:((b.length:Nat):Int)<=((i:Nat):Int):=by omega
   rw[B9 (by omega:b.length<=i),jc (a:=(1:Int)) (by simp[zfF,e,e2,zb,kl])];rfl
def P74_eq (a b:List Int) (h:a.length<=9223372036854775807):P74 a b=some (cmpL a b):=by simp only[P74,S74,zO];exact cmp_loop a b h a.length 0 (by omega) (BG _) (BG _)
def zkw (a b:Entry) (h:a.at_.length<=9223372036854775807):P61 a b=some (cmpL a.at_ b.at_):=by simp[P61,S61,P74_eq _ _ h]
def eY (n:Int):Bool:=decide (-1000000<=n) && decide (n<=1000000)
def P60_eq (n:Int):P60 n=some (eY n):=by simp[P60,S60,eY]
def wJ (o:List Dim) (l:List Entry) (i:Nat) (e:Entry):Int :=
 if ¬ yP o e.at_=0 then yP o e.at_ else if wF o e.at_=false then 6 else if eY e.n=false then 1
 else match i with | 0=>0 | j+1=>match l[j]? with | some e0=>if 0<=cmpL e0.at_ e.at_ then 7 else 0 | none=>0
def ziZ (o:List Dim) (l:List Entry):Int :=
 if ¬ (qQ o).2.2=0 then (qQ o).2.2 else match (List.range l.length).findSome? fun i=>match l[i]? with | some e=>if wJ o l i e=0 then none else some (wJ o l i e) | none=>none with
 | some e=>e
 | none=>0
def P27_eq (o:List Dim) (l:List Entry) (hl:Lst Entry.gd l):P27 o l=some (zA (ziZ o l)):=by
 simp only[P27,S27,P51_eq,zk,zP];unfold ziZ;by_cases h0:(qQ o).2.2=0
 case neg=>simp[h0]
 have ok:=zbD.1 h0;have iJ:∀ d∈o,d.members.length<=1000:=fun d hd=>by have:=(ok.dims d hd).len;omega
 have hlen:=hl.1;rw[if_neg (by simpa using h0)];simp only[h0,decide_true,A4,za];have:=jl (B:=zkq P58 P59 P60 P61 o l) l.length (fun i=>match l[i]? with
  | some e=>if wJ o l i e=0 then none else some (zA (wJ o l i e))
  | none=>none) (fun i hi=>by
   have e:((i:Nat):Int) < ((l.length:Nat):Int):=by omega
   have hm:=Aa hi;have hg:=hl.2 _ (Ay hi);generalize l[i]=x at hm hg;have aw:x.at_.length<=9223372036854775807:=hg.1.1;simp only[zkq,e,decide_true,zg,zb,hm,zk,P58_eq o _ aw,zP];rw[zJ (n:=(i:Int)+1) (by omega) (by omega)];by_cases c1:yP o x.at_=0
   case neg =>
    have hE:wJ o l i x=yP o x.at_:=by unfold wJ;rw[if_pos c1]
    simp[hE,c1]
   have hf:=wX.1 c1;have gr:¬ ¬ yP o x.at_=0:=fun h=>h c1;simp only[c1,decide_true,A4,za,P59_eq hf aw iJ,zk,P60_eq];cases c2:wF o x.at_ with
   | false =>
    have hE:wJ o l i x=6:=by unfold wJ;rw[if_neg gr,if_pos c2]
    simp[hE,zA]
   | true =>
    have fM:¬ wF o x.at_=false:=by rw[c2];simp
    cases c3:eY x.n with
    | false =>
     have hE:wJ o l i x=1:=by unfold wJ;rw[if_neg gr,if_neg fM,if_pos c3]
     simp[hE,zA]
    | true =>
     have iU:¬ eY x.n=false:=by rw[c3];simp
     simp only[A4,za];cases i with
     | zero =>
      have hE:wJ o l 0 x=0:=by unfold wJ;rw[if_neg gr,if_neg fM,if_neg iU]
      simp[hE]
     | succ j =>
      have hj:j < l.length:=by omega
      have ej:=Aa hj;have nW:=hl.2 _ (Ay hj);have hE:wJ o l (j+1) x=if 0<=cmpL l[j].at_ x.at_ then 7 else 0:=by unfold wJ;rw[if_neg gr,if_neg fM,if_neg iU];simp only[ej]
      have e0:(0:Int) < ((j+1:Nat):Int):=by omega
      have e1:((j+1:Nat):Int) - 1=(j:Int):=by omega
      simp only[e0,decide_true,zg,e1];rw[zJ (n:=(j:Int)) (by omega) (by omega)];simp only[zb,ej,zk,zkw _ _ nW.1.1,hE];by_cases c4:0<=cmpL l[j].at_ x.at_<;>simp[c4,zA]) (by simp[zkq])
 unfold lp;rw[this];have e2:((List.range l.length).findSome? fun i=>match l[i]? with
  | some e=>if wJ o l i e=0 then none else some (zA (wJ o l i e))
  | none=>none)=((List.range l.length).findSome? fun i=>match l[i]? with | some e=>if wJ o l i e=0 then none else some (wJ o l i e) | none=>none).map zA:=by
  rw[← qm];congr 1;funext i;cases l[i]? with
  | none=>rfl
  | some m=>by_cases h:wJ o l i m=0<;>simp[h]
 rw[e2];cases ((List.range l.length).findSome? fun i=>match l[i]? with | some e=>if wJ o l i e=0 then none else some (wJ o l i e) | none=>none) with
 | none=>simp[zA]
 | some r=>rfl
structure EntsOk (o:List Dim) (l:List Entry):Prop where
 out:OutOk o
 fit:∀ e∈l,Fit o e.at_
 leaf:∀ e∈l,wF o e.at_=true
 val:∀ e∈l,eY e.n=true
 rise:∀ (i:Nat) (a b:Entry),l[i]? = some a->l[i+1]? = some b->cmpL a.at_ b.at_ < 0
def ziY {o:List Dim} {l:List Entry}:ziZ o l=0↔EntsOk o l:=by
 unfold ziZ;by_cases h0:(qQ o).2.2=0
 case neg=>rw[if_pos h0];exact ⟨fun e=>absurd e h0,fun e=>absurd (zbD.2 e.out) h0⟩
 rw[if_neg (by simpa using h0)];cases hm:(List.range l.length).findSome? fun i=>match l[i]? with | some e=>if wJ o l i e=0 then none else some (wJ o l i e) | none=>none with
 | some r =>
  obtain ⟨i,hi,hr⟩:=AM hm;have hi:i < l.length:=by simpa using hi
  rw[Aa hi] at hr;simp only at hr;split at hr
  ·cases hr
  ·rename_i ak;cases hr;refine ⟨fun h=>absurd h ak,fun h=>absurd ?_ ak⟩;have bH:=Ay hi;unfold wJ;rw[if_neg (by simpa using wX.2 (h.fit _ bH)),if_neg (by simp[h.leaf _ bH]),if_neg (by simp[h.val _ bH])];cases i with
   | zero=>rfl
   | succ j =>simp only;rw[Aa (by omega:j < l.length)];have:=h.rise j _ _ (Aa (by omega:j < l.length)) (Aa hi);simp only;rw[if_neg (by omega)]
 | none =>
  have hn:=Bq.1 hm;have each:∀ (i:Nat) (e:Entry),l[i]? = some e->wJ o l i e=0:=by
   intro i e hi;have aO:=(Ac.1 hi).1;have:=hn i (by simpa using aO);rw[hi] at this;simp only at this;split at this
   ·assumption
   ·cases this
  have parts:∀ (i:Nat) (e:Entry),l[i]? = some e->yP o e.at_=0∧wF o e.at_=true∧eY e.n=true∧∀ j e0,i=j+1->l[j]? = some e0->cmpL e0.at_ e.at_ < 0:=by
   intro i e hi;have:=each i e hi;unfold wJ at this;by_cases c1:yP o e.at_=0
   case neg=>rw[if_pos c1] at this;exact absurd this c1
   rw[if_neg (by simpa using c1)] at this;by_cases c2:wF o e.at_=false
   ·rw[if_pos c2] at this;cases this
   rw[if_neg c2] at this;by_cases c3:eY e.n=false
   ·rw[if_pos c3] at this;cases this
   rw[if_neg c3] at this;refine ⟨c1,by simpa using c2,by simpa using c3,fun j e0 hj l6 => ?_⟩;subst hj;simp only[l6] at this;split at this
   ·cases this
   ·omega
  refine ⟨fun _=>⟨zbD.1 h0,fun e he => ?_,fun e he => ?_,fun e he => ?_,fun i a b ha hb=>(parts _ _ hb).2.2.2 i a rfl ha⟩,fun _=>rfl⟩
  ·obtain ⟨i,hi⟩:=AA.1 he;exact wX.1 (parts i e hi).1
  ·obtain ⟨i,hi⟩:=AA.1 he;exact (parts i e hi).2.1
  ·obtain ⟨i,hi⟩:=AA.1 he;exact (parts i e hi).2.2.1
end
section
def cart {α:Type}:List (List α)->List (List α)
 | []=>[[]]
 | l :: r=>l.flatMap fun k=>(cart r).map (k :: ·)
def wq {α β:Type} {f g:α->List β}:∀ {l:List α},(∀ a∈l,f a=g a)->l.flatMap f=l.flatMap g
 | [],_=>rfl
 | a :: l,h=>by rw[Bs,Bs,h a Al,wq fun b hb=>h b (Af _ hb)]
def zcX {α β γ:Type} (f:α->β) (g:β->List γ) (l:List α):(l.map f).flatMap g=l.flatMap fun a=>g (f a):=by
 induction l with
 | nil=>rfl
 | cons a l ih=>simp only[Ar,Bs,ih]
def zcU {α β γ:Type} (f:β->γ) (g:α->List β) (l:List α):(l.flatMap g).map f=l.flatMap fun a=>(g a).map f:=by
 induction l with
 | nil=>rfl
 | cons a l ih=>simp only[Bs,A7,ih]
def zc9 {α β γ:Type} (f:α->List β) (g:β->List γ) (l:List α):(l.flatMap f).flatMap g=l.flatMap fun a=>(f a).flatMap g:=by
 induction l with
 | nil=>rfl
 | cons a l ih=>simp only[Bs,C2,ih]
def pd {α:Type}:∀ (Ls:List (List α)) (acc:List (List α)),Ls.foldl (fun out l=>out.flatMap fun q=>l.map fun k=>q++[k]) acc=acc.flatMap fun q=>(cart Ls).map fun t=>q++t
 | [],acc=>by
  simp only[CW,cart,Ar,Bk,Bg]
  induction acc with
  | nil=>rfl
  | cons a l ih=>simp only[Bs,← ih];rfl
 | l :: Ls,acc=>by
  rw[Bv,pd Ls,zc9];congr 1;funext q;rw[zcX];simp only[cart,zcU,A5];congr 1;funext k;congr 1;funext t;simp
def range_mul (a b:Nat):List.range (a * b)=(List.range a).flatMap fun q=>(List.range b).map fun s=>q * b+s:=by
 induction a with
 | zero=>simp
 | succ a ih =>rw[Nat.succ_mul,List.range_add,ih,BZ,C2];simp
def sizeN (o:List Dim):Nat:=o.foldr (fun d n=>d.members.length * n) 1
def digs_size (o:List Dim) (hp:∀ d∈o,0 < d.members.length):∀ (q s:Nat),s < sizeN o->jU o (q * sizeN o+s)=((jU o s).1,q):=by
 induction o with
 | nil=>intro q s hs;simp[sizeN] at hs;subst hs;simp[jU,sizeN]
 | cons d r ih =>
  intro q s hs;have eA:∀ x∈r,0 < x.members.length:=fun x hx=>hp x (Af _ hx);have hd:=hp d Al;have hS:sizeN (d :: r)=d.members.length * sizeN r:=rfl;have hSr:0 < sizeN r:=by
   cases h:sizeN r with
   | zero=>rw[hS,h] at hs;simp at hs
   | succ=>omega
  rw[hS] at hs ⊢;have ax:s=(s / sizeN r) * sizeN r+s % sizeN r:=by rw[CC];exact (Nat.div_add_mod s (sizeN r)).symm
  have ez:s % sizeN r < sizeN r:=CQ _ hSr;have pS:s / sizeN r < d.members.length:=Nat.div_lt_of_lt_mul (by rw[CC];exact hs);have e1:q * (d.members.length * sizeN r)+s=(q * d.members.length+s / sizeN r) * sizeN r+s % sizeN r:=(by rw[Bc,mul_assoc,BB];omega);have d1:=ih eA (q * d.members.length+s / sizeN r) (s % sizeN r) ez;have d2:=ih eA (s / sizeN r) (s % sizeN r) ez;rw[← e1] at d1;rw[← ax] at d2;simp only[jU,d1,d2];rw[C6 (q * d.members.length),Nat.add_mul_mod_self_right,Nat.mod_eq_of_lt pS,Nat.add_mul_div_right _ _ hd,Nat.div_eq_of_lt pS,Ba]
def ziF (o:List Dim) (hp:∀ d∈o,0 < d.members.length):(List.range (sizeN o)).map (fun n=>(jU o n).1)=cart (o.map fun d=>(List.range d.members.length).map fun (k:Nat)=>(k:Int)):=by
 induction o with
 | nil=>rfl
 | cons d r ih =>
  have eA:∀ x∈r,0 < x.members.length:=fun x hx=>hp x (Af _ hx);have hS:sizeN (d :: r)=d.members.length * sizeN r:=rfl;rw[hS,range_mul,zcU,Ar,cart,zcX,← ih eA];refine wq fun q hq => ?_;rw[A5,A5];refine Ak fun s hs => ?_;have ah:s < sizeN r:=by simpa using hs
  have nC:q < d.members.length:=by simpa using hq
  simp only[Function.comp,jU,digs_size r eA q s ah,Nat.mod_eq_of_lt nC]
def zed {α β:Type} (p:β->Bool) (g:α->List β) (l:List α):(l.flatMap g).filter p=l.flatMap fun a=>(g a).filter p:=by
 induction l with
 | nil=>rfl
 | cons a l ih=>simp only[Bs,B8,ih]
def zec {α β:Type} (p:α->Bool) (g:α->List β) (l:List α):(l.filter p).flatMap g=l.flatMap fun a=>if p a=true then g a else []:=by
 induction l with
 | nil=>rfl
 | cons a l ih=>rw[List.filter_cons,Bs,← ih];cases p a<;>simp
def zid {α:Type}:List (α->Bool)->List α->Bool
 | f :: fs,x :: xs=>f x && zid fs xs
 | _,_=>true
def zee {α:Type}:∀ (fs:List (α->Bool)) (Ls:List (List α)),fs.length=Ls.length->(cart Ls).filter (zid fs)=cart (List.zipWith (fun f l=>l.filter f) fs Ls)
 | [],[],_=>rfl
 | f :: fs,l :: Ls,h=>by
  simp only[Ax,CL] at h;simp only[List.zipWith_cons_cons,cart];rw[zed,zec,← zee fs Ls h];refine wq fun k _ => ?_;rw[List.filter_map];cases hk:f k with
  | true =>rw[if_pos rfl];congr 1;refine List.filter_congr fun t _ => ?_;simp[Function.comp,zid,hk]
  | false =>
   have:(cart Ls).filter (zid (f :: fs) ∘ fun x=>k :: x)=[]:=List.filter_eq_nil_iff.2 fun t _=>by simp[Function.comp,zid,hk]
   rw[this];simp
 | [],_ :: _,h=>by simp at h
 | _ :: _,[],h=>by simp at h
end
section
def size_fold:∀ (o:List Dim) (n:Nat),(∀ d∈o,0 < d.members.length)->n * sizeN o<=1000000000->o.foldl (fun n d=>wi (n * ((d.members.length:Nat):Int))) (n:Int)=((n * sizeN o:Nat):Int)
 | [],n,_,_=>by simp[sizeN]
 | d :: r,n,hp,hb=>by
  have hS:sizeN (d :: r)=d.members.length * sizeN r:=rfl;have eA:∀ x∈r,0 < x.members.length:=fun x hx=>hp x (Af _ hx);rw[hS,← mul_assoc] at hb;have hr:0 < sizeN r:=by
   clear hb hS hp
   induction r with
   | nil=>simp[sizeN]
   | cons a r ih =>have h1:=eA a Al;have h2:=ih fun x hx=>eA x (Af _ hx);show 0 < a.members.length * sizeN r;exact Nat.mul_pos h1 h2
  have cT:n * d.members.length<=1000000000:=AL (Nat.le_mul_of_pos_right _ hr) hb;have hw:wi ((n:Int) * ((d.members.length:Nat):Int))=((n * d.members.length:Nat):Int):=(by rw[← Int.natCast_mul,zJ (by omega) (by omega)]);rw[Bv,hw,size_fold r _ eA hb,hS,← mul_assoc]
def size_le:∀ (o:List Dim),(∀ d∈o,d.members.length<=12)->sizeN o<=12 ^ o.length
 | [],_=>by simp[sizeN]
 | d :: r,h=>by
  have h1:=h d Al;have h2:=size_le r fun x hx=>h x (Af _ hx);show d.members.length * sizeN r<=_;rw[Ax,CP,CC];exact BT h2 h1
def pow_le {n:Nat} (h:n<=4):12 ^ n<=20736:=by have:(12:Nat) ^ n<=12 ^ 4:=BO (by omega) h;simpa using this
def OutOk.sizeN {o:List Dim} (ok:OutOk o):eX o=(sizeN o:Nat)∧Ab.sizeN o<=20736:=by have h1:=size_le o fun d hd=>(ok.dims d hd).len.2;have h2:=pow_le ok.len.2;refine ⟨?_,by omega⟩;have:=size_fold o 1 (fun d hd=>(ok.dims d hd).len.1) (by omega);rw[Nat.one_mul] at this;exact this
def zkb {o:List Dim} (ok:OutOk o) (n:Nat):Fit o (jU o n).1:=by
 have hp:∀ d∈o,0 < d.members.length:=fun d hd=>(ok.dims d hd).len.1;refine ⟨zdy o n, ?_⟩;clear ok
 induction o with
 | nil=>intro i m d h;simp[jU] at h
 | cons d r ih =>
  intro i m e hm he;cases i with
  | zero =>simp only[jU,Ck,Option.some.injEq] at hm he;subst hm;subst he;have:=CQ (jU r n).2 (hp d Al);omega
  | succ i =>simp only[jU,AY] at hm he;exact ih (fun x hx=>hp x (Af _ hx)) i m e hm he
end
end Ab
