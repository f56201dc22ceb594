import Derived.Test.YtkaifdgeigdbhaaGreatDoorH9
open Nat (mul_assoc)
set_option linter.all false
namespace Ab
open Go
section
def bK:List Dim->Nat->List Int×Nat
 | [],n=>([],n)
 | d :: r,n=>(((((bK r n).2 % d.members.length:Nat)):Int) :: (bK r n).1,(bK r n).2 / d.members.length)
def ziN (o:List Dim) (n:Nat):(bK o n).1.length=o.length:=by
 induction o with
 | nil=>rfl
 | cons d r ih=>simp[bK,ih]
def badM (x:Int×Dim):Bool:=decide (x.1 < 0) || decide ((x.2.members.length:Int)<=x.1)
def wg (o:List Dim) (p:List Int):Int:=if ¬ p.length=o.length then 3 else if (p.zip o).any badM=true then 1 else 0
structure Fit (o:List Dim) (p:List Int):Prop where
 len:p.length=o.length
 mem:∀ (i:Nat) (m:Int) (d:Dim),p[i]? = some m->o[i]? = some d->0<=m∧m < d.members.length
def zbs {o:List Dim} {p:List Int}:wg o p=0↔Fit o p:=by
 unfold wg;by_cases h1:p.length=o.length
 ·rw[if_neg (by simpa using h1)];by_cases h2:(p.zip o).any badM=true
  ·rw[if_pos h2];refine ⟨fun e=>(by cases e),fun h => ?_⟩;obtain ⟨x,hx,hb⟩:=BU.1 h2;obtain ⟨i,hi⟩:=AB.1 hx;obtain ⟨e1,e2⟩:=Bk.1 hi;have:=h.mem i _ _ e1 e2;simp only[badM,BM,decide_eq_true_eq] at hb;omega
  ·rw[if_neg h2];refine ⟨fun _=>⟨h1,fun i m d hm hd => ?_⟩,fun _=>rfl⟩;have hx:(m,d)∈p.zip o:=AB.2 ⟨i,Bk.2 ⟨hm,hd⟩⟩;have:¬ badM (m,d)=true:=fun e=>h2 (BU.2 ⟨_,hx,e⟩);simp only[badM,BM,decide_eq_true_eq] at this;omega
 ·rw[if_pos h1];exact ⟨fun e=>(by cases e),fun h=>absurd h.len h1⟩
def P58_eq (o:List Dim) (p:List Int) (h:p.length<=9223372036854775807):P58 o p=some (zm (wg o p)):=by
 simp only[P58,S58];unfold wg;by_cases h1:p.length=o.length
 ·have e:((p.length:Nat):Int)=((o.length:Nat):Int):=by omega
  rw[if_neg (by simpa using h1)];simp only[e,not_true,decide_false,za];rw[zfr badM (p.zip o) (Err.no 1) Err.nil (fun i y hy => ?_) (by rw[B8,← h1,C3];simp[S58_L1])]
  ·cases (p.zip o).any badM<;>simp[zm]
  ·obtain ⟨e1,e2⟩:=Bk.1 hy;have hi:=(Ac.1 e1).1;have e:((i:Nat):Int) < ((p.length:Nat):Int):=by omega
   simp only[S58_L1,e,decide_true,zh,zi,e1,e2,zk,badM];rw[zN (by omega) (by omega)];by_cases c1:y.1 < 0
   ·simp[c1]
   ·by_cases c2:(y.2.members.length:Int)<=y.1<;>simp[c1,c2]
 ·have e:¬ ((p.length:Nat):Int)=((o.length:Nat):Int):=by omega
  rw[if_pos h1];simp[e,zm]
def wH (o:List Dim) (p:List Int):Bool:=(p.zip o).all fun x=>dD x.2.members x.1.toNat
def all_any {α:Type} (f:α->Bool) (l:List α):l.all f = !l.any fun x => !f x:=by
 induction l with
 | nil=>rfl
 | cons a l ih=>simp only[A6,Ch,ih];cases f a<;>rfl
def P59_eq {o:List Dim} {p:List Int} (hf:Fit o p) (h:p.length<=9223372036854775807) (hd:∀ d∈o,d.members.length<=1000):P59 o p=some (wH o p):=by
 simp only[P59,S59];rw[zfr (fun x:Int×Dim => !dD x.2.members x.1.toNat) (p.zip o) false true (fun i y hy => ?_) (by rw[B8,← hf.len,C3];simp[S59_L1])]
 ·rw[wH,all_any];cases (p.zip o).any fun x => !dD x.2.members x.1.toNat<;>rfl
 ·obtain ⟨e1,e2⟩:=Bk.1 hy;have hi:=(Ac.1 e1).1;have e:((i:Nat):Int) < ((p.length:Nat):Int):=by omega
  have hm:=hf.mem i _ _ e1 e2;have hl:=hd _ (Ad e2);obtain ⟨k,hk⟩:=BV hm.1;rw[hk] at hm e1;simp only[S59_L1,e,decide_true,zh,zi,e1,e2,zk,hk,P44_eq hl (by omega:k < y.2.members.length),AG];rw[zN (by omega) (by omega)];cases dD y.2.members k<;>rfl
end
section
def cmpL:List Int->List Int->Int
 | [],[]=>0
 | [],_ :: _ => -1
 | _ :: _,[]=>1
 | x :: a,y :: b=>if x < y then -1 else if y < x then 1 else cmpL a b
def P81_eq (a b:Int):P81 a b=some (if a < b then -1 else if b < a then 1 else 0):=by
 have e:∀ n:Int,P84 n=some false:=fun n=>by simp[P84,S84]
 simp only[P81,S81,e,zk,za];by_cases h1:a < b
 ·simp[h1]
 ·by_cases h2:b < a<;>simp[h1,h2]
def cmp_loop (a b:List Int) (h:a.length<=9223372036854775807):∀ (n i:Nat),a.length - i=n->i<=a.length->i<=b.length->jn (lpO (zeu P81 a b) (i:Int)) (fun _=>br (decide (((List.length a:Nat):Int) < ((List.length b:Nat):Int))) (some (-1:Int)) (some (0:Int)))=some (cmpL (a.drop i) (b.drop i)):=by
 intro n
 induction n with
 | zero =>
  intro i hi hl hb;obtain rfl:i=a.length:=by omega
  rw[zB (y:=(a.length:Int)) (by simp[zeu])];rw[List.drop_length];simp only[z8];by_cases ak:a.length < b.length
  ·have e:((a.length:Nat):Int) < ((b.length:Nat):Int):=by omega
   rw[BK ak];simp[e,cmpL]
  ·have e:¬ ((a.length:Nat):Int) < ((b.length:Nat):Int):=by omega
   rw[CM (by omega)];simp[e,cmpL]
 | succ n ih =>
  intro i hi hl hb;have mr:i < a.length:=by omega
  have e:((i:Nat):Int) < ((a.length:Nat):Int):=by omega
  rw[BK mr];by_cases kM:i < b.length
  ·have e2:¬ ((b.length:Nat):Int)<=((i:Nat):Int):=by omega
   rw[BK kM];simp only[cmpL];have hB:zeu P81 a b (i:Int)=some (if a[i] < b[i] then .fin (-1) else if b[i] < a[i] then .fin 1 else .nx ((i:Int)+1)):=by
    simp only[zeu,e,e2,decide_true,decide_false,zh,za,zi,Aa mr,Aa kM,zk,P81_eq];rw[zN (by omega) (by omega)];by_cases c1:a[i] < b[i]
    ·simp[c1]
    ·by_cases c2:b[i] < a[i]<;>simp[c1,c2]
   by_cases c1:a[i] < b[i]
   ·rw[if_pos c1] at hB ⊢;rw[qL hB];rfl
   ·rw[if_neg c1] at hB ⊢;by_cases c2:b[i] < a[i]
    ·rw[if_pos c2] at hB ⊢;rw[qL hB];rfl
    ·rw[if_neg c2] at hB ⊢;rw[zZ hB];exact ih (i+1) (by omega) (by omega) (by omega)
  ·have e2:((b.length:Nat):Int)<=((i:Nat):Int):=by omega
   rw[CM (by omega:b.length<=i),qL (a:=(1:Int)) (by simp[zeu,e,e2,zi,mr])];rfl
def P74_eq (a b:List Int) (h:a.length<=9223372036854775807):P74 a b=some (cmpL a b):=by simp only[P74,S74,qe];exact cmp_loop a b h a.length 0 (by omega) (Bx _) (Bx _)
def ki (a b:Entry) (h:a.at_.length<=9223372036854775807):P61 a b=some (cmpL a.at_ b.at_):=by simp[P61,S61,P74_eq _ _ h]
def zcB (n:Int):Bool:=decide (-1000000<=n) && decide (n<=1000000)
def P60_eq (n:Int):P60 n=some (zcB n):=by simp[P60,S60,zcB]
def zbY (o:List Dim) (l:List Entry) (i:Nat) (e:Entry):Int :=
 if ¬ wg o e.at_=0 then wg o e.at_ else if wH o e.at_=false then 6 else if zcB e.n=false then 1
 else match i with | 0=>0 | j+1=>match l[j]? with | some e0=>if 0<=cmpL e0.at_ e.at_ then 7 else 0 | none=>0
def entsE (o:List Dim) (l:List Entry):Int :=
 if ¬ (qS o).2.2=0 then (qS o).2.2 else match (List.range l.length).findSome? fun i=>match l[i]? with | some e=>if zbY o l i e=0 then none else some (zbY o l i e) | none=>none with
 | some e=>e
 | none=>0
def P27_eq (o:List Dim) (l:List Entry) (hl:Lst Entry.gd l):P27 o l=some (zm (entsE o l)):=by
 simp only[P27,S27,P51_eq,zk,zF];unfold entsE;by_cases h0:(qS o).2.2=0
 case neg=>simp[h0]
 have ok:=wD.1 h0;have kO:∀ d∈o,d.members.length<=1000:=fun d hd=>by have:=(ok.dims d hd).len;omega
 have hlen:=hl.1;rw[if_neg (by simpa using h0)];simp only[h0,decide_true,A8,za];have:=yK (B:=ziZ P58 P59 P60 P61 o l) l.length (fun i=>match l[i]? with
  | some e=>if zbY o l i e=0 then none else some (zm (zbY o l i e))
  | none=>none) (fun i hi=>by
   have e:((i:Nat):Int) < ((l.length:Nat):Int):=by omega
   have hm:=Aa hi;have hg:=hl.2 _ (AO hi);generalize l[i]=x at hm hg;have bc:x.at_.length<=9223372036854775807:=hg.1.1;simp only[ziZ,e,decide_true,zh,zi,hm,zk,P58_eq o _ bc,zF];rw[zN (n:=(i:Int)+1) (by omega) (by omega)];by_cases c1:wg o x.at_=0
   case neg =>
    have hE:zbY o l i x=wg o x.at_:=by unfold zbY;rw[if_pos c1]
    simp[hE,c1]
   have hf:=zbs.1 c1;have kV:¬ ¬ wg o x.at_=0:=fun h=>h c1;simp only[c1,decide_true,A8,za,P59_eq hf bc kO,zk,P60_eq];cases c2:wH o x.at_ with
   | false =>
    have hE:zbY o l i x=6:=by unfold zbY;rw[if_neg kV,if_pos c2]
    simp[hE,zm]
   | true =>
    have jM:¬ wH o x.at_=false:=by rw[c2];simp
    cases c3:zcB x.n with
    | false =>
     have hE:zbY o l i x=1:=by unfold zbY;rw[if_neg kV,if_neg jM,if_pos c3]
     simp[hE,zm]
    | true =>
     have oU:¬ zcB x.n=false:=by rw[c3];simp
     simp only[A8,za];cases i with
     | zero =>
      have hE:zbY o l 0 x=0:=by unfold zbY;rw[if_neg kV,if_neg jM,if_neg oU]
      simp[hE]
     | succ j =>
      have hj:j < l.length:=by omega
      have ej:=Aa hj;have hgj:=hl.2 _ (AO hj);have hE:zbY o l (j+1) x=if 0<=cmpL l[j].at_ x.at_ then 7 else 0:=by unfold zbY;rw[if_neg kV,if_neg jM,if_neg oU];simp only[ej]
      have e0:(0:Int) < ((j+1:Nat):Int):=by omega
      have e1:((j+1:Nat):Int) - 1=(j:Int):=by omega
      simp only[e0,decide_true,zh,e1];rw[zN (n:=(j:Int)) (by omega) (by omega)];simp only[zi,ej,zk,ki _ _ hgj.1.1,hE];by_cases c4:0<=cmpL l[j].at_ x.at_<;>simp[c4,zm]) (by simp[ziZ])
 unfold lp;rw[this];have e2:((List.range l.length).findSome? fun i=>match l[i]? with
  | some e=>if zbY o l i e=0 then none else some (zm (zbY o l i e))
  | none=>none)=((List.range l.length).findSome? fun i=>match l[i]? with | some e=>if zbY o l i e=0 then none else some (zbY o l i e) | none=>none).map zm:=by
  rw[← qm];congr 1;funext i;cases l[i]? with
  | none=>rfl
  | some m=>by_cases h:zbY o l i m=0<;>simp[h]
 rw[e2];cases ((List.range l.length).findSome? fun i=>match l[i]? with | some e=>if zbY o l i e=0 then none else some (zbY o l i e) | none=>none) with
 | none=>simp[zm]
 | some r=>rfl
structure EntsOk (o:List Dim) (l:List Entry):Prop where
 out:OutOk o
 fit:∀ e∈l,Fit o e.at_
 leaf:∀ e∈l,wH o e.at_=true
 val:∀ e∈l,zcB e.n=true
 rise:∀ (i:Nat) (a b:Entry),l[i]? = some a->l[i+1]? = some b->cmpL a.at_ b.at_ < 0
def ents_ok {o:List Dim} {l:List Entry}:entsE o l=0↔EntsOk o l:=by
 unfold entsE;by_cases h0:(qS o).2.2=0
 case neg=>rw[if_pos h0];exact ⟨fun e=>absurd e h0,fun e=>absurd (wD.2 e.out) h0⟩
 rw[if_neg (by simpa using h0)];cases hm:(List.range l.length).findSome? fun i=>match l[i]? with | some e=>if zbY o l i e=0 then none else some (zbY o l i e) | none=>none with
 | some r =>
  obtain ⟨i,hi,hr⟩:=AW hm;have hi:i < l.length:=by simpa using hi
  rw[Aa hi] at hr;simp only at hr;split at hr
  ·cases hr
  ·rename_i ah;cases hr;refine ⟨fun h=>absurd h ah,fun h=>absurd ?_ ah⟩;have aR:=AO hi;unfold zbY;rw[if_neg (by simpa using zbs.2 (h.fit _ aR)),if_neg (by simp[h.leaf _ aR]),if_neg (by simp[h.val _ aR])];cases i with
   | zero=>rfl
   | succ j =>simp only;rw[Aa (by omega:j < l.length)];have:=h.rise j _ _ (Aa (by omega:j < l.length)) (Aa hi);simp only;rw[if_neg (by omega)]
 | none =>
  have hn:=A9.1 hm;have each:∀ (i:Nat) (e:Entry),l[i]? = some e->zbY o l i e=0:=by
   intro i e hi;have aJ:=(Ac.1 hi).1;have:=hn i (by simpa using aJ);rw[hi] at this;simp only at this;split at this
   ·assumption
   ·cases this
  have parts:∀ (i:Nat) (e:Entry),l[i]? = some e->wg o e.at_=0∧wH o e.at_=true∧zcB e.n=true∧∀ j e0,i=j+1->l[j]? = some e0->cmpL e0.at_ e.at_ < 0:=by
   intro i e hi;have:=each i e hi;unfold zbY at this;by_cases c1:wg o e.at_=0
   case neg=>rw[if_pos c1] at this;exact absurd this c1
   rw[if_neg (by simpa using c1)] at this;by_cases c2:wH o e.at_=false
   ·rw[if_pos c2] at this;cases this
   rw[if_neg c2] at this;by_cases c3:zcB e.n=false
   ·rw[if_pos c3] at this;cases this
   rw[if_neg c3] at this;refine ⟨c1,by simpa using c2,by simpa using c3,fun j e0 hj mn => ?_⟩;subst hj;simp only[mn] at this;split at this
   ·cases this
   ·omega
  refine ⟨fun _=>⟨wD.1 h0,fun e he => ?_,fun e he => ?_,fun e he => ?_,fun i a b ha hb=>(parts _ _ hb).2.2.2 i a rfl ha⟩,fun _=>rfl⟩
  ·obtain ⟨i,hi⟩:=AB.1 he;exact zbs.1 (parts i e hi).1
  ·obtain ⟨i,hi⟩:=AB.1 he;exact (parts i e hi).2.1
  ·obtain ⟨i,hi⟩:=AB.1 he;exact (parts i e hi).2.2.1
end
section
def cart {α:Type}:List (List α)->List (List α)
 | []=>[[]]
 | l :: r=>l.flatMap fun k=>(cart r).map (k :: ·)
def yx {α β:Type} {f g:α->List β}:∀ {l:List α},(∀ a∈l,f a=g a)->l.flatMap f=l.flatMap g
 | [],_=>rfl
 | a :: l,h=>by rw[Bj,Bj,h a Ai,yx fun b hb=>h b (Ae _ hb)]
def zbX {α β γ:Type} (f:α->β) (g:β->List γ) (l:List α):(l.map f).flatMap g=l.flatMap fun a=>g (f a):=by
 induction l with
 | nil=>rfl
 | cons a l ih=>simp only[Ar,Bj,ih]
def zbU {α β γ:Type} (f:β->γ) (g:α->List β) (l:List α):(l.flatMap g).map f=l.flatMap fun a=>(g a).map f:=by
 induction l with
 | nil=>rfl
 | cons a l ih=>simp only[Bj,Bb,ih]
def zb7 {α β γ:Type} (f:α->List β) (g:β->List γ) (l:List α):(l.flatMap f).flatMap g=l.flatMap fun a=>(f a).flatMap g:=by
 induction l with
 | nil=>rfl
 | cons a l ih=>simp only[Bj,C0,ih]
def zgU {α:Type}:∀ (Ls:List (List α)) (acc:List (List α)),Ls.foldl (fun out l=>out.flatMap fun q=>l.map fun k=>q++[k]) acc=acc.flatMap fun q=>(cart Ls).map fun t=>q++t
 | [],acc=>by
  simp only[List.foldl_nil,cart,Ar,Bc,Bg]
  induction acc with
  | nil=>rfl
  | cons a l ih=>simp only[Bj,← ih];rfl
 | l :: Ls,acc=>by
  rw[Bt,zgU Ls,zb7];congr 1;funext q;rw[zbX];simp only[cart,zbU,AZ];congr 1;funext k;congr 1;funext t;simp
def range_mul (a b:Nat):List.range (a * b)=(List.range a).flatMap fun q=>(List.range b).map fun s=>q * b+s:=by
 induction a with
 | zero=>simp
 | succ a ih =>rw[Nat.succ_mul,List.range_add,ih,BW,C0];simp
def sizeN (o:List Dim):Nat:=o.foldr (fun d n=>d.members.length * n) 1
def zgL (o:List Dim) (hp:∀ d∈o,0 < d.members.length):∀ (q s:Nat),s < sizeN o->bK o (q * sizeN o+s)=((bK o s).1,q):=by
 induction o with
 | nil=>intro q s hs;simp[sizeN] at hs;subst hs;simp[bK,sizeN]
 | cons d r ih =>
  intro q s hs;have cY:∀ x∈r,0 < x.members.length:=fun x hx=>hp x (Ae _ hx);have hd:=hp d Ai;have hS:sizeN (d :: r)=d.members.length * sizeN r:=rfl;have hSr:0 < sizeN r:=by
   cases h:sizeN r with
   | zero=>rw[hS,h] at hs;simp at hs
   | succ=>omega
  rw[hS] at hs ⊢;have aC:s=(s / sizeN r) * sizeN r+s % sizeN r:=by rw[Cn];exact (Nat.div_add_mod s (sizeN r)).symm
  have eJ:s % sizeN r < sizeN r:=CJ _ hSr;have n6:s / sizeN r < d.members.length:=Nat.div_lt_of_lt_mul (by rw[Cn];exact hs);have e1:q * (d.members.length * sizeN r)+s=(q * d.members.length+s / sizeN r) * sizeN r+s % sizeN r:=(by rw[A4,mul_assoc,Bm];omega);have d1:=ih cY (q * d.members.length+s / sizeN r) (s % sizeN r) eJ;have d2:=ih cY (s / sizeN r) (s % sizeN r) eJ;rw[← e1] at d1;rw[← aC] at d2;simp only[bK,d1,d2];rw[Co (q * d.members.length),Nat.add_mul_mod_self_right,CG n6,Nat.add_mul_div_right _ _ hd,Nat.div_eq_of_lt n6,A3]
def zhu (o:List Dim) (hp:∀ d∈o,0 < d.members.length):(List.range (sizeN o)).map (fun n=>(bK o n).1)=cart (o.map fun d=>(List.range d.members.length).map fun (k:Nat)=>(k:Int)):=by
 induction o with
 | nil=>rfl
 | cons d r ih =>
  have cY:∀ x∈r,0 < x.members.length:=fun x hx=>hp x (Ae _ hx);have hS:sizeN (d :: r)=d.members.length * sizeN r:=rfl;rw[hS,range_mul,zbU,Ar,cart,zbX,← ih cY];refine yx fun q hq => ?_;rw[AZ,AZ];refine Aj fun s hs => ?_;have ab:s < sizeN r:=by simpa using hs
  have l7:q < d.members.length:=by simpa using hq
  simp only[Function.comp,bK,zgL r cY q s ab,CG l7]
def zc8 {α β:Type} (p:β->Bool) (g:α->List β) (l:List α):(l.flatMap g).filter p=l.flatMap fun a=>(g a).filter p:=by
 induction l with
 | nil=>rfl
 | cons a l ih=>simp only[Bj,Cs,ih]
def zc6 {α β:Type} (p:α->Bool) (g:α->List β) (l:List α):(l.filter p).flatMap g=l.flatMap fun a=>if p a=true then g a else []:=by
 induction l with
 | nil=>rfl
 | cons a l ih=>rw[List.filter_cons,Bj,← ih];cases p a<;>simp
def fb {α:Type}:List (α->Bool)->List α->Bool
 | f :: fs,x :: xs=>f x && fb fs xs
 | _,_=>true
def nI {α:Type}:∀ (fs:List (α->Bool)) (Ls:List (List α)),fs.length=Ls.length->(cart Ls).filter (fb fs)=cart (List.zipWith (fun f l=>l.filter f) fs Ls)
 | [],[],_=>rfl
 | f :: fs,l :: Ls,h=>by
  simp only[Au,CC] at h;simp only[List.zipWith_cons_cons,cart];rw[zc8,zc6,← nI fs Ls h];refine yx fun k _ => ?_;rw[List.filter_map];cases hk:f k with
  | true =>rw[if_pos rfl];congr 1;refine List.filter_congr fun t _ => ?_;simp[Function.comp,fb,hk]
  | false =>
   have:(cart Ls).filter (fb (f :: fs) ∘ fun x=>k :: x)=[]:=List.filter_eq_nil_iff.2 fun t _=>by simp[Function.comp,fb,hk]
   rw[this];simp
 | [],_ :: _,h=>by simp at h
 | _ :: _,[],h=>by simp at h
end
section
def size_fold:∀ (o:List Dim) (n:Nat),(∀ d∈o,0 < d.members.length)->n * sizeN o<=1000000000->o.foldl (fun n d=>wi (n * ((d.members.length:Nat):Int))) (n:Int)=((n * sizeN o:Nat):Int)
 | [],n,_,_=>by simp[sizeN]
 | d :: r,n,hp,hb=>by
  have hS:sizeN (d :: r)=d.members.length * sizeN r:=rfl;have cY:∀ x∈r,0 < x.members.length:=fun x hx=>hp x (Ae _ hx);rw[hS,← mul_assoc] at hb;have hr:0 < sizeN r:=by
   clear hb hS hp
   induction r with
   | nil=>simp[sizeN]
   | cons a r ih =>have h1:=cY a Ai;have h2:=ih fun x hx=>cY x (Ae _ hx);show 0 < a.members.length * sizeN r;exact Nat.mul_pos h1 h2
  have ct:n * d.members.length<=1000000000:=AY (Nat.le_mul_of_pos_right _ hr) hb;have hw:wi ((n:Int) * ((d.members.length:Nat):Int))=((n * d.members.length:Nat):Int):=(by rw[← Int.natCast_mul,zN (by omega) (by omega)]);rw[Bt,hw,size_fold r _ cY hb,hS,← mul_assoc]
def size_le:∀ (o:List Dim),(∀ d∈o,d.members.length<=12)->sizeN o<=12 ^ o.length
 | [],_=>by simp[sizeN]
 | d :: r,h=>by
  have h1:=h d Ai;have h2:=size_le r fun x hx=>h x (Ae _ hx);show d.members.length * sizeN r<=_;rw[Au,Nat.pow_succ,Cn];exact BH h2 h1
def pow_le {n:Nat} (h:n<=4):12 ^ n<=20736:=by have:(12:Nat) ^ n<=12 ^ 4:=Ci (by omega) h;simpa using this
def OutOk.sizeN {o:List Dim} (ok:OutOk o):zfW o=(sizeN o:Nat)∧Ab.sizeN o<=20736:=by have h1:=size_le o fun d hd=>(ok.dims d hd).len.2;have h2:=pow_le ok.len.2;refine ⟨?_,by omega⟩;have:=size_fold o 1 (fun d hd=>(ok.dims d hd).len.1) (by omega);rw[Nat.one_mul] at this;exact this
def digs_fit {o:List Dim} (ok:OutOk o) (n:Nat):Fit o (bK o n).1:=by
 have hp:∀ d∈o,0 < d.members.length:=fun d hd=>(ok.dims d hd).len.1;refine ⟨ziN o n, ?_⟩;clear ok
 induction o with
 | nil=>intro i m d h;simp[bK] at h
 | cons d r ih =>
  intro i m e hm he;cases i with
  | zero =>simp only[bK,B9,Option.some.injEq] at hm he;subst hm;subst he;have:=CJ (bK r n).2 (hp d Ai);omega
  | succ i =>simp only[bK,AU] at hm he;exact ih (fun x hx=>hp x (Ae _ hx)) i m e hm he
def numN:List Dim->List Int->Nat
 | _ :: o,m :: p=>m.toNat * sizeN o+numN o p
 | _,_=>0
def Fit.tail {d:Dim} {o:List Dim} {m:Int} {p:List Int} (h:Fit (d :: o) (m :: p)):(0<=m∧m < d.members.length)∧Fit o p :=
 ⟨h.mem 0 m d rfl rfl,by simpa using h.len,fun i m' d' hm hd=>h.mem (i+1) m' d' (by simpa using hm) (by simpa using hd)⟩
def num_lt:∀ {o:List Dim} {p:List Int},Fit o p->numN o p < sizeN o
 | [],[],_=>by simp[numN,sizeN]
 | [],_ :: _,h=>by have:=h.len;simp at this
 | _ :: _,[],h=>by have:=h.len;simp at this
 | d :: o,m :: p,h=>by
  obtain ⟨h1,h2⟩:=h.tail;have:=num_lt h2;have e:sizeN (d :: o)=d.members.length * sizeN o:=rfl;have h3:(m.toNat+1) * sizeN o<=d.members.length * sizeN o:=AL _ (by omega);rw[A4] at h3;simp only[numN,e];omega
def zeS:∀ {o:List Dim} {p:List Int},(∀ d∈o,0 < d.members.length)->Fit o p->bK o (numN o p)=(p,0)
 | [],[],_,_=>rfl
 | [],_ :: _,_,h=>by have:=h.len;simp at this
 | _ :: _,[],_,h=>by have:=h.len;simp at this
 | d :: o,m :: p,hp,h=>by
  obtain ⟨h1,h2⟩:=h.tail;have n8:∀ d∈o,0 < d.members.length:=fun x hx=>hp x (Ae _ hx);have ih:=zeS n8 h2;have hd:=zgL o n8 m.toNat (numN o p) (num_lt h2);have ak:m.toNat < d.members.length:=by omega
  simp only[numN,bK,hd,ih,CG ak,Nat.div_eq_of_lt ak];rw[Cm h1.1]
end
end Ab
