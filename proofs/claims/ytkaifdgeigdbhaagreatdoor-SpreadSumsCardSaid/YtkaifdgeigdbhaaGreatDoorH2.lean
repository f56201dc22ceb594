import Derived.Test.YtkaifdgeigdbhaaGreatDoorH9
open Nat (mul_assoc)
set_option linter.all false
namespace Ab
open Go
section
def zdZ:List Dim->Nat->List Int×Nat
 | [],n=>([],n)
 | d :: r,n=>(((((zdZ r n).2 % d.members.length:Nat)):Int) :: (zdZ r n).1,(zdZ r n).2 / d.members.length)
def zjr (o:List Dim) (n:Nat):(zdZ o n).1.length=o.length:=by
 induction o with
 | nil=>rfl
 | cons d r ih=>simp[zdZ,ih]
def badM (x:Int×Dim):Bool:=decide (x.1 < 0) || decide ((x.2.members.length:Int)<=x.1)
def jB (o:List Dim) (p:List Int):Int:=if ¬ p.length=o.length then 3 else if (p.zip o).any badM=true then 1 else 0
structure Fit (o:List Dim) (p:List Int):Prop where
 len:p.length=o.length
 mem:∀ (i:Nat) (m:Int) (d:Dim),p[i]? = some m->o[i]? = some d->0<=m∧m < d.members.length
def ye {o:List Dim} {p:List Int}:jB o p=0↔Fit o p:=by
 unfold jB;by_cases h1:p.length=o.length
 ·rw[if_neg (by simpa using h1)];by_cases h2:(p.zip o).any badM=true
  ·rw[if_pos h2];refine ⟨fun e=>(by cases e),fun h => ?_⟩;obtain ⟨x,hx,hb⟩:=B0.1 h2;obtain ⟨i,hi⟩:=AJ.1 hx;obtain ⟨e1,e2⟩:=Bv.1 hi;have:=h.mem i _ _ e1 e2;simp only[badM,BU,decide_eq_true_eq] at hb;omega
  ·rw[if_neg h2];refine ⟨fun _=>⟨h1,fun i m d hm hd => ?_⟩,fun _=>rfl⟩;have hx:(m,d)∈p.zip o:=AJ.2 ⟨i,Bv.2 ⟨hm,hd⟩⟩;have:¬ badM (m,d)=true:=fun e=>h2 (B0.2 ⟨_,hx,e⟩);simp only[badM,BU,decide_eq_true_eq] at this;omega
 ·rw[if_pos h1];exact ⟨fun e=>(by cases e),fun h=>absurd h.len h1⟩
def zjJ (o:List Dim) (p:List Int) (h:p.length<=9223372036854775807):P58 o p=some (zk (jB o p)):=by
 simp only[P58,S58];unfold jB;by_cases h1:p.length=o.length
 ·have e:((p.length:Nat):Int)=((o.length:Nat):Int):=by omega
  rw[if_neg (by simpa using h1)];simp only[e,not_true,decide_false,za];rw[zgf badM (p.zip o) (Err.no 1) Err.nil (fun i y hy => ?_) (by rw[Ce,← h1,Dg];simp[S58_L1])]
  ·cases (p.zip o).any badM<;>simp[zk]
  ·obtain ⟨e1,e2⟩:=Bv.1 hy;have hi:=(Ac.1 e1).1;have e:((i:Nat):Int) < ((p.length:Nat):Int):=by omega
   simp only[S58_L1,e,decide_true,zh,zi,e1,e2,zj,badM];rw[zN (by omega) (by omega)];by_cases c1:y.1 < 0
   ·simp[c1]
   ·by_cases c2:(y.2.members.length:Int)<=y.1<;>simp[c1,c2]
 ·have e:¬ ((p.length:Nat):Int)=((o.length:Nat):Int):=by omega
  rw[if_pos h1];simp[e,zk]
def yw (o:List Dim) (p:List Int):Bool:=(p.zip o).all fun x=>zcH x.2.members x.1.toNat
def all_any {α:Type} (f:α->Bool) (l:List α):l.all f = !l.any fun x => !f x:=by
 induction l with
 | nil=>rfl
 | cons a l ih=>simp only[A8,Cr,ih];cases f a<;>rfl
def P59_eq {o:List Dim} {p:List Int} (hf:Fit o p) (h:p.length<=9223372036854775807) (hd:∀ d∈o,d.members.length<=1000):P59 o p=some (yw o p):=by
 simp only[P59,S59];rw[zgf (fun x:Int×Dim => !zcH x.2.members x.1.toNat) (p.zip o) false true (fun i y hy => ?_) (by rw[Ce,← hf.len,Dg];simp[S59_L1])]
 ·rw[yw,all_any];cases (p.zip o).any fun x => !zcH x.2.members x.1.toNat<;>rfl
 ·obtain ⟨e1,e2⟩:=Bv.1 hy;have hi:=(Ac.1 e1).1;have e:((i:Nat):Int) < ((p.length:Nat):Int):=by omega
  have hm:=hf.mem i _ _ e1 e2;have hl:=hd _ (Ad e2);obtain ⟨k,hk⟩:=B2 hm.1;rw[hk] at hm e1;simp only[S59_L1,e,decide_true,zh,zi,e1,e2,zj,hk,P44_eq hl (by omega:k < y.2.members.length),AH];rw[zN (by omega) (by omega)];cases zcH y.2.members k<;>rfl
end
section
def cmpL:List Int->List Int->Int
 | [],[]=>0
 | [],_ :: _ => -1
 | _ :: _,[]=>1
 | x :: a,y :: b=>if x < y then -1 else if y < x then 1 else cmpL a b
def P81_eq (a b:Int):P81 a b=some (if a < b then -1 else if b < a then 1 else 0):=by
 have e:∀ n:Int,P84 n=some false:=fun n=>by simp[P84,S84]
 simp only[P81,S81,e,zj,za];by_cases h1:a < b
 ·simp[h1]
 ·by_cases h2:b < a<;>simp[h1,h2]
def cmp_loop (a b:List Int) (h:a.length<=9223372036854775807):∀ (n i:Nat),a.length - i=n->i<=a.length->i<=b.length->jn (lpO (zfh P81 a b) (i:Int)) (fun _=>br (decide (((List.length a:Nat):Int) < ((List.length b:Nat):Int))) (some (-1:Int)) (some (0:Int)))=some (cmpL (a.drop i) (b.drop i)):=by
 intro n
 induction n with
 | zero =>
  intro i hi hl hb;obtain rfl:i=a.length:=by omega
  rw[zE (y:=(a.length:Int)) (by simp[zfh])];rw[List.drop_length];simp only[zV];by_cases al:a.length < b.length
  ·have e:((a.length:Nat):Int) < ((b.length:Nat):Int):=by omega
   rw[BI al];simp[e,cmpL]
  ·have e:¬ ((a.length:Nat):Int) < ((b.length:Nat):Int):=by omega
   rw[B3 (by omega)];simp[e,cmpL]
 | succ n ih =>
  intro i hi hl hb;have nT:i < a.length:=by omega
  have e:((i:Nat):Int) < ((a.length:Nat):Int):=by omega
  rw[BI nT];by_cases iJ:i < b.length
  ·have e2:¬ ((b.length:Nat):Int)<=((i:Nat):Int):=by omega
   rw[BI iJ];simp only[cmpL];have hB:zfh P81 a b (i:Int)=some (if a[i] < b[i] then .fin (-1) else if b[i] < a[i] then .fin 1 else .nx ((i:Int)+1)):=by
    simp only[zfh,e,e2,decide_true,decide_false,zh,za,zi,Aa nT,Aa iJ,zj,P81_eq];rw[zN (by omega) (by omega)];by_cases c1:a[i] < b[i]
    ·simp[c1]
    ·by_cases c2:b[i] < a[i]<;>simp[c1,c2]
   by_cases c1:a[i] < b[i]
   ·rw[if_pos c1] at hB ⊢;rw[jd hB];rfl
   ·rw[if_neg c1] at hB ⊢;by_cases c2:b[i] < a[i]
    ·rw[if_pos c2] at hB ⊢;rw[jd hB];rfl
    ·rw[if_neg c2] at hB ⊢;rw[z8 hB];exact ih (i+1) (by omega) (by omega) (by omega)
  ·have e2:((b.length:Nat):Int)<=((i:Nat):Int):=by omega
   rw[B3 (by omega:b.length<=i),jd (a:=(1:Int)) (by simp[zfh,e,e2,zi,nT])];rfl
def P74_eq (a b:List Int) (h:a.length<=9223372036854775807):P74 a b=some (cmpL a b):=by simp only[P74,S74,z7];exact cmp_loop a b h a.length 0 (by omega) (BE _) (BE _)
def zjI (a b:Entry) (h:a.at_.length<=9223372036854775807):P61 a b=some (cmpL a.at_ b.at_):=by simp[P61,S61,P74_eq _ _ h]
def wS (n:Int):Bool:=decide (-1000000<=n) && decide (n<=1000000)
def P60_eq (n:Int):P60 n=some (wS n):=by simp[P60,S60,wS]
def zcC (o:List Dim) (l:List Entry) (i:Nat) (e:Entry):Int :=
 if ¬ jB o e.at_=0 then jB o e.at_ else if yw o e.at_=false then 6 else if wS e.n=false then 1
 else match i with | 0=>0 | j+1=>match l[j]? with | some e0=>if 0<=cmpL e0.at_ e.at_ then 7 else 0 | none=>0
def zcO (o:List Dim) (l:List Entry):Int :=
 if ¬ (jk o).2.2=0 then (jk o).2.2 else match (List.range l.length).findSome? fun i=>match l[i]? with | some e=>if zcC o l i e=0 then none else some (zcC o l i e) | none=>none with
 | some e=>e
 | none=>0
def P27_eq (o:List Dim) (l:List Entry) (hl:Lst Entry.gd l):P27 o l=some (zk (zcO o l)):=by
 simp only[P27,S27,P51_eq,zj,zt];unfold zcO;by_cases h0:(jk o).2.2=0
 case neg=>simp[h0]
 have ok:=zdv.1 h0;have mf:∀ d∈o,d.members.length<=1000:=fun d hd=>by have:=(ok.dims d hd).len;omega
 have hlen:=hl.1;rw[if_neg (by simpa using h0)];simp only[h0,decide_true,AU,za];have:=wo (B:=zjD P58 P59 P60 P61 o l) l.length (fun i=>match l[i]? with
  | some e=>if zcC o l i e=0 then none else some (zk (zcC o l i e))
  | none=>none) (fun i hi=>by
   have e:((i:Nat):Int) < ((l.length:Nat):Int):=by omega
   have hm:=Aa hi;have hg:=hl.2 _ (Az hi);generalize l[i]=x at hm hg;have bp:x.at_.length<=9223372036854775807:=hg.1.1;simp only[zjD,e,decide_true,zh,zi,hm,zj,zjJ o _ bp,zt];rw[zN (n:=(i:Int)+1) (by omega) (by omega)];by_cases c1:jB o x.at_=0
   case neg =>
    have hE:zcC o l i x=jB o x.at_:=by unfold zcC;rw[if_pos c1]
    simp[hE,c1]
   have hf:=ye.1 c1;have mm:¬ ¬ jB o x.at_=0:=fun h=>h c1;simp only[c1,decide_true,AU,za,P59_eq hf bp mf,zj,P60_eq];cases c2:yw o x.at_ with
   | false =>
    have hE:zcC o l i x=6:=by unfold zcC;rw[if_neg mm,if_pos c2]
    simp[hE,zk]
   | true =>
    have lC:¬ yw o x.at_=false:=by rw[c2];simp
    cases c3:wS x.n with
    | false =>
     have hE:zcC o l i x=1:=by unfold zcC;rw[if_neg mm,if_neg lC,if_pos c3]
     simp[hE,zk]
    | true =>
     have rN:¬ wS x.n=false:=by rw[c3];simp
     simp only[AU,za];cases i with
     | zero =>
      have hE:zcC o l 0 x=0:=by unfold zcC;rw[if_neg mm,if_neg lC,if_neg rN]
      simp[hE]
     | succ j =>
      have hj:j < l.length:=by omega
      have ej:=Aa hj;have hgj:=hl.2 _ (Az hj);have hE:zcC o l (j+1) x=if 0<=cmpL l[j].at_ x.at_ then 7 else 0:=by unfold zcC;rw[if_neg mm,if_neg lC,if_neg rN];simp only[ej]
      have e0:(0:Int) < ((j+1:Nat):Int):=by omega
      have e1:((j+1:Nat):Int) - 1=(j:Int):=by omega
      simp only[e0,decide_true,zh,e1];rw[zN (n:=(j:Int)) (by omega) (by omega)];simp only[zi,ej,zj,zjI _ _ hgj.1.1,hE];by_cases c4:0<=cmpL l[j].at_ x.at_<;>simp[c4,zk]) (by simp[zjD])
 unfold lp;rw[this];have e2:((List.range l.length).findSome? fun i=>match l[i]? with
  | some e=>if zcC o l i e=0 then none else some (zk (zcC o l i e))
  | none=>none)=((List.range l.length).findSome? fun i=>match l[i]? with | some e=>if zcC o l i e=0 then none else some (zcC o l i e) | none=>none).map zk:=by
  rw[← qq];congr 1;funext i;cases l[i]? with
  | none=>rfl
  | some m=>by_cases h:zcC o l i m=0<;>simp[h]
 rw[e2];cases ((List.range l.length).findSome? fun i=>match l[i]? with | some e=>if zcC o l i e=0 then none else some (zcC o l i e) | none=>none) with
 | none=>simp[zk]
 | some r=>rfl
structure EntsOk (o:List Dim) (l:List Entry):Prop where
 out:OutOk o
 fit:∀ e∈l,Fit o e.at_
 leaf:∀ e∈l,yw o e.at_=true
 val:∀ e∈l,wS e.n=true
 rise:∀ (i:Nat) (a b:Entry),l[i]? = some a->l[i+1]? = some b->cmpL a.at_ b.at_ < 0
def gq {o:List Dim} {l:List Entry}:zcO o l=0↔EntsOk o l:=by
 unfold zcO;by_cases h0:(jk o).2.2=0
 case neg=>rw[if_pos h0];exact ⟨fun e=>absurd e h0,fun e=>absurd (zdv.2 e.out) h0⟩
 rw[if_neg (by simpa using h0)];cases hm:(List.range l.length).findSome? fun i=>match l[i]? with | some e=>if zcC o l i e=0 then none else some (zcC o l i e) | none=>none with
 | some r =>
  obtain ⟨i,hi,hr⟩:=A5 hm;have hi:i < l.length:=by simpa using hi
  rw[Aa hi] at hr;simp only at hr;split at hr
  ·cases hr
  ·rename_i ah;cases hr;refine ⟨fun h=>absurd h ah,fun h=>absurd ?_ ah⟩;have bA:=Az hi;unfold zcC;rw[if_neg (by simpa using ye.2 (h.fit _ bA)),if_neg (by simp[h.leaf _ bA]),if_neg (by simp[h.val _ bA])];cases i with
   | zero=>rfl
   | succ j =>simp only;rw[Aa (by omega:j < l.length)];have:=h.rise j _ _ (Aa (by omega:j < l.length)) (Aa hi);simp only;rw[if_neg (by omega)]
 | none =>
  have hn:=BA.1 hm;have each:∀ (i:Nat) (e:Entry),l[i]? = some e->zcC o l i e=0:=by
   intro i e hi;have aP:=(Ac.1 hi).1;have:=hn i (by simpa using aP);rw[hi] at this;simp only at this;split at this
   ·assumption
   ·cases this
  have parts:∀ (i:Nat) (e:Entry),l[i]? = some e->jB o e.at_=0∧yw o e.at_=true∧wS e.n=true∧∀ j e0,i=j+1->l[j]? = some e0->cmpL e0.at_ e.at_ < 0:=by
   intro i e hi;have:=each i e hi;unfold zcC at this;by_cases c1:jB o e.at_=0
   case neg=>rw[if_pos c1] at this;exact absurd this c1
   rw[if_neg (by simpa using c1)] at this;by_cases c2:yw o e.at_=false
   ·rw[if_pos c2] at this;cases this
   rw[if_neg c2] at this;by_cases c3:wS e.n=false
   ·rw[if_pos c3] at this;cases this
   rw[if_neg c3] at this;refine ⟨c1,by simpa using c2,by simpa using c3,fun j e0 hj nP => ?_⟩;subst hj;simp only[nP] at this;split at this
   ·cases this
   ·omega
  refine ⟨fun _=>⟨zdv.1 h0,fun e he => ?_,fun e he => ?_,fun e he => ?_,fun i a b ha hb=>(parts _ _ hb).2.2.2 i a rfl ha⟩,fun _=>rfl⟩
  ·obtain ⟨i,hi⟩:=AJ.1 he;exact ye.1 (parts i e hi).1
  ·obtain ⟨i,hi⟩:=AJ.1 he;exact (parts i e hi).2.1
  ·obtain ⟨i,hi⟩:=AJ.1 he;exact (parts i e hi).2.2.1
end
section
def cart {α:Type}:List (List α)->List (List α)
 | []=>[[]]
 | l :: r=>l.flatMap fun k=>(cart r).map (k :: ·)
def yS {α β:Type} {f g:α->List β}:∀ {l:List α},(∀ a∈l,f a=g a)->l.flatMap f=l.flatMap g
 | [],_=>rfl
 | a :: l,h=>by rw[Bt,Bt,h a Ai,yS fun b hb=>h b (Ae _ hb)]
def zcB {α β γ:Type} (f:α->β) (g:β->List γ) (l:List α):(l.map f).flatMap g=l.flatMap fun a=>g (f a):=by
 induction l with
 | nil=>rfl
 | cons a l ih=>simp only[Aq,Bt,ih]
def zcv {α β γ:Type} (f:β->γ) (g:α->List β) (l:List α):(l.flatMap g).map f=l.flatMap fun a=>(g a).map f:=by
 induction l with
 | nil=>rfl
 | cons a l ih=>simp only[Bt,Bc,ih]
def zcN {α β γ:Type} (f:α->List β) (g:β->List γ) (l:List α):(l.flatMap f).flatMap g=l.flatMap fun a=>(f a).flatMap g:=by
 induction l with
 | nil=>rfl
 | cons a l ih=>simp only[Bt,Dd,ih]
def zhC {α:Type}:∀ (Ls:List (List α)) (acc:List (List α)),Ls.foldl (fun out l=>out.flatMap fun q=>l.map fun k=>q++[k]) acc=acc.flatMap fun q=>(cart Ls).map fun t=>q++t
 | [],acc=>by
  simp only[C6,cart,Aq,Bk,Bq]
  induction acc with
  | nil=>rfl
  | cons a l ih=>simp only[Bt,← ih];rfl
 | l :: Ls,acc=>by
  rw[Bw,zhC Ls,zcN];congr 1;funext q;rw[zcB];simp only[cart,zcv,A3];congr 1;funext k;congr 1;funext t;simp
def range_mul (a b:Nat):List.range (a * b)=(List.range a).flatMap fun q=>(List.range b).map fun s=>q * b+s:=by
 induction a with
 | zero=>simp
 | succ a ih =>rw[Nat.succ_mul,List.range_add,ih,Cu,Dd];simp
def sizeN (o:List Dim):Nat:=o.foldr (fun d n=>d.members.length * n) 1
def zdY (o:List Dim) (hp:∀ d∈o,0 < d.members.length):∀ (q s:Nat),s < sizeN o->zdZ o (q * sizeN o+s)=((zdZ o s).1,q):=by
 induction o with
 | nil=>intro q s hs;simp[sizeN] at hs;subst hs;simp[zdZ,sizeN]
 | cons d r ih =>
  intro q s hs;have dw:∀ x∈r,0 < x.members.length:=fun x hx=>hp x (Ae _ hx);have hd:=hp d Ai;have hS:sizeN (d :: r)=d.members.length * sizeN r:=rfl;have hSr:0 < sizeN r:=by
   cases h:sizeN r with
   | zero=>rw[hS,h] at hs;simp at hs
   | succ=>omega
  rw[hS] at hs ⊢;have aF:s=(s / sizeN r) * sizeN r+s % sizeN r:=by rw[Ca];exact (Nat.div_add_mod s (sizeN r)).symm
  have eX:s % sizeN r < sizeN r:=Co _ hSr;have pU:s / sizeN r < d.members.length:=C1 (by rw[Ca];exact hs);have e1:q * (d.members.length * sizeN r)+s=(q * d.members.length+s / sizeN r) * sizeN r+s % sizeN r:=(by rw[A6,mul_assoc,AY];omega);have d1:=ih dw (q * d.members.length+s / sizeN r) (s % sizeN r) eX;have d2:=ih dw (s / sizeN r) (s % sizeN r) eX;rw[← e1] at d1;rw[← aF] at d2;simp only[zdZ,d1,d2];rw[CA (q * d.members.length),Nat.add_mul_mod_self_right,Cp pU,Nat.add_mul_div_right _ _ hd,Nat.div_eq_of_lt pU,AW]
def zia (o:List Dim) (hp:∀ d∈o,0 < d.members.length):(List.range (sizeN o)).map (fun n=>(zdZ o n).1)=cart (o.map fun d=>(List.range d.members.length).map fun (k:Nat)=>(k:Int)):=by
 induction o with
 | nil=>rfl
 | cons d r ih =>
  have dw:∀ x∈r,0 < x.members.length:=fun x hx=>hp x (Ae _ hx);have hS:sizeN (d :: r)=d.members.length * sizeN r:=rfl;rw[hS,range_mul,zcv,Aq,cart,zcB,← ih dw];refine yS fun q hq => ?_;rw[A3,A3];refine Ak fun s hs => ?_;have ae:s < sizeN r:=by simpa using hs
  have nE:q < d.members.length:=by simpa using hq
  simp only[Function.comp,zdZ,zdY r dw q s ae,Cp nE]
def zdN {α β:Type} (p:β->Bool) (g:α->List β) (l:List α):(l.flatMap g).filter p=l.flatMap fun a=>(g a).filter p:=by
 induction l with
 | nil=>rfl
 | cons a l ih=>simp only[Bt,CF,ih]
def zdM {α β:Type} (p:α->Bool) (g:α->List β) (l:List α):(l.filter p).flatMap g=l.flatMap fun a=>if p a=true then g a else []:=by
 induction l with
 | nil=>rfl
 | cons a l ih=>rw[List.filter_cons,Bt,← ih];cases p a<;>simp
def zhK {α:Type}:List (α->Bool)->List α->Bool
 | f :: fs,x :: xs=>f x && zhK fs xs
 | _,_=>true
def zdO {α:Type}:∀ (fs:List (α->Bool)) (Ls:List (List α)),fs.length=Ls.length->(cart Ls).filter (zhK fs)=cart (List.zipWith (fun f l=>l.filter f) fs Ls)
 | [],[],_=>rfl
 | f :: fs,l :: Ls,h=>by
  simp only[As,CP] at h;simp only[List.zipWith_cons_cons,cart];rw[zdN,zdM,← zdO fs Ls h];refine yS fun k _ => ?_;rw[List.filter_map];cases hk:f k with
  | true =>rw[if_pos rfl];congr 1;refine List.filter_congr fun t _ => ?_;simp[Function.comp,zhK,hk]
  | false =>
   have:(cart Ls).filter (zhK (f :: fs) ∘ fun x=>k :: x)=[]:=List.filter_eq_nil_iff.2 fun t _=>by simp[Function.comp,zhK,hk]
   rw[this];simp
 | [],_ :: _,h=>by simp at h
 | _ :: _,[],h=>by simp at h
end
section
def size_fold:∀ (o:List Dim) (n:Nat),(∀ d∈o,0 < d.members.length)->n * sizeN o<=1000000000->o.foldl (fun n d=>wi (n * ((d.members.length:Nat):Int))) (n:Int)=((n * sizeN o:Nat):Int)
 | [],n,_,_=>by simp[sizeN]
 | d :: r,n,hp,hb=>by
  have hS:sizeN (d :: r)=d.members.length * sizeN r:=rfl;have dw:∀ x∈r,0 < x.members.length:=fun x hx=>hp x (Ae _ hx);rw[hS,← mul_assoc] at hb;have hr:0 < sizeN r:=by
   clear hb hS hp
   induction r with
   | nil=>simp[sizeN]
   | cons a r ih =>have h1:=dw a Ai;have h2:=ih fun x hx=>dw x (Ae _ hx);show 0 < a.members.length * sizeN r;exact Nat.mul_pos h1 h2
  have cy:n * d.members.length<=1000000000:=AO (Nat.le_mul_of_pos_right _ hr) hb;have hw:wi ((n:Int) * ((d.members.length:Nat):Int))=((n * d.members.length:Nat):Int):=(by rw[← Int.natCast_mul,zN (by omega) (by omega)]);rw[Bw,hw,size_fold r _ dw hb,hS,← mul_assoc]
def size_le:∀ (o:List Dim),(∀ d∈o,d.members.length<=12)->sizeN o<=12 ^ o.length
 | [],_=>by simp[sizeN]
 | d :: r,h=>by
  have h1:=h d Ai;have h2:=size_le r fun x hx=>h x (Ae _ hx);show d.members.length * sizeN r<=_;rw[As,Nat.pow_succ,Ca];exact BN h2 h1
def pow_le {n:Nat} (h:n<=4):12 ^ n<=20736:=by have:(12:Nat) ^ n<=12 ^ 4:=Cs (by omega) h;simpa using this
def OutOk.sizeN {o:List Dim} (ok:OutOk o):zgK o=(sizeN o:Nat)∧Ab.sizeN o<=20736:=by have h1:=size_le o fun d hd=>(ok.dims d hd).len.2;have h2:=pow_le ok.len.2;refine ⟨?_,by omega⟩;have:=size_fold o 1 (fun d hd=>(ok.dims d hd).len.1) (by omega);rw[Nat.one_mul] at this;exact this
def digs_fit {o:List Dim} (ok:OutOk o) (n:Nat):Fit o (zdZ o n).1:=by
 have hp:∀ d∈o,0 < d.members.length:=fun d hd=>(ok.dims d hd).len.1;refine ⟨zjr o n, ?_⟩;clear ok
 induction o with
 | nil=>intro i m d h;simp[zdZ] at h
 | cons d r ih =>
  intro i m e hm he;cases i with
  | zero =>simp only[zdZ,Cg,Option.some.injEq] at hm he;subst hm;subst he;have:=Co (zdZ r n).2 (hp d Ai);omega
  | succ i =>simp only[zdZ,AX] at hm he;exact ih (fun x hx=>hp x (Ae _ hx)) i m e hm he
def dG:List Dim->List Int->Nat
 | _ :: o,m :: p=>m.toNat * sizeN o+dG o p
 | _,_=>0
def Fit.tail {d:Dim} {o:List Dim} {m:Int} {p:List Int} (h:Fit (d :: o) (m :: p)):(0<=m∧m < d.members.length)∧Fit o p :=
 ⟨h.mem 0 m d rfl rfl,by simpa using h.len,fun i m' d' hm hd=>h.mem (i+1) m' d' (by simpa using hm) (by simpa using hd)⟩
def lD:∀ {o:List Dim} {p:List Int},Fit o p->dG o p < sizeN o
 | [],[],_=>by simp[dG,sizeN]
 | [],_ :: _,h=>by have:=h.len;simp at this
 | _ :: _,[],h=>by have:=h.len;simp at this
 | d :: o,m :: p,h=>by
  obtain ⟨h1,h2⟩:=h.tail;have:=lD h2;have e:sizeN (d :: o)=d.members.length * sizeN o:=rfl;have h3:(m.toNat+1) * sizeN o<=d.members.length * sizeN o:=AB _ (by omega);rw[A6] at h3;simp only[dG,e];omega
def lQ:∀ {o:List Dim} {p:List Int},(∀ d∈o,0 < d.members.length)->Fit o p->zdZ o (dG o p)=(p,0)
 | [],[],_,_=>rfl
 | [],_ :: _,_,h=>by have:=h.len;simp at this
 | _ :: _,[],_,h=>by have:=h.len;simp at this
 | d :: o,m :: p,hp,h=>by
  obtain ⟨h1,h2⟩:=h.tail;have ky:∀ d∈o,0 < d.members.length:=fun x hx=>hp x (Ae _ hx);have ih:=lQ ky h2;have hd:=zdY o ky m.toNat (dG o p) (lD h2);have al:m.toNat < d.members.length:=by omega
  simp only[dG,zdZ,hd,ih,Cp al,Nat.div_eq_of_lt al];rw[Cz h1.1]
def zfX:∀ {o:List Dim},(∀ d∈o,0 < d.members.length)->∀ {n:Nat},n < sizeN o->dG o (zdZ o n).1=n
 | [],_,n,h=>by simp[sizeN] at h;subst h;rfl
 | d :: o,hp,n,h=>by
  have ky:∀ d∈o,0 < d.members.length:=fun x hx=>hp x (Ae _ hx);have e:sizeN (d :: o)=d.members.length * sizeN o:=rfl;have hs:0 < sizeN o:=by
   cases hq:sizeN o with
   | zero=>rw[e,hq] at h;simp at h
   | succ=>omega
  have h1:n=(n / sizeN o) * sizeN o+n % sizeN o:=by rw[Ca];exact (Nat.div_add_mod n (sizeN o)).symm
  have h2:n % sizeN o < sizeN o:=Co _ hs;have h3:n / sizeN o < d.members.length:=C1 (by rw[Ca];exact e ▸ h);have hd:=zdY o ky (n / sizeN o) (n % sizeN o) h2;rw[← h1] at hd;simp only[zdZ,hd,dG,AH,Cp h3,zfX ky h2];exact h1.symm
end
end Ab
