import Derived.Test.YtckaniphjiniiaaGreatDoorH9
set_option linter.all false
namespace Ab
open Go
section
def jw:List Dim->Nat->List Int×Nat
 | [],n=>([],n)
 | d::r,n=>(((((jw r n).2%d.members.length:Nat)):Int)::(jw r n).1,(jw r n).2/d.members.length)
def zhg (o:List Dim) (n:Nat):(jw o n).1.length=o.length:=by
 induction o with
 | nil=>rfl
 | cons d r ih=>simp[jw,ih]
def digs_le (o:List Dim) (n:Nat):(jw o n).2<=n:=by
 induction o with
 | nil=>exact Az _
 | cons d r ih=>simp only[jw];exact AD (Nat.div_le_self _ _) ih
def set_rep (k:Nat) (x:Int) (l:List Int):(List.replicate (k+1) (0:Int)++l).set k x=List.replicate k 0++x::l:=by
 induction k with
 | zero=>rfl
 | succ k ih=>rw[List.replicate_succ,AK,CU,ih];rfl
def P69_eq (o:List Dim) (n:Nat) (hl:o.length<=1000) (hn:n<=1000000000) (hp:∀d∈o,0<d.members.length∧d.members.length<=1000000):P69 o (n:Int)=some (jw o n).1:=by
 have bd:(0:Int)<=(o.length:Int)∧(o.length:Int)<=(o.length:Int)∧(o.length:Int)<=zC:=by unfold zC;omega
 have hs:=zP (B:=zjm o) (fun k=>((((jw (o.drop (o.length-k)) n).2:Nat):Int),((o.length:Int)-k-1,List.replicate (o.length-k) (0:Int)++(jw (o.drop (o.length-k)) n).1))) o.length (fun k hk=>by
  obtain⟨j,hj⟩:∃j,o.length-k=j+1:=⟨o.length-k-1,by omega⟩;have pL:o.length-(k+1)=j:=by omega
  have eP:j<o.length:=by omega
  have hd:=Aa eP;have my:o.drop j=o[j]::o.drop (j+1):=BP eP;have aO:=hp o[j] (Ay eP);have hle:=digs_le (o.drop (j+1)) n;have ei:(o.length:Int)-(k:Int)-1=(j:Int):=by omega
  have ei2:(o.length:Int)-((k+1:Nat):Int)-1=(j:Int)-1:=by omega
  have h0:(0:Int)<=(j:Int):=by omega
  have ah:¬((o[j].members.length:Nat):Int)=0:=by omega
  simp only[hj,pL,ei,ei2,my,jw];have hlen:(List.replicate (j+1) (0:Int)++(jw (o.drop (j+1)) n).1).length=o.length:=by simp[zhg];omega
  have kl:(0:Int)<=(j:Int)∧(j:Int)<(((List.replicate (j+1) (0:Int)++(jw (o.drop (j+1)) n).1).length:Nat):Int):=by rw[hlen];omega
  have aZ:(List.replicate (j+1) (0:Int)++(jw (o.drop (j+1)) n).1)[j]? = some 0:=(by rw[AG (by simp),B3];simp);simp only[zjm,h0,decide_true,ze,zg,hd,zj,ah,not_false_eq_true,jZ,kl.2,true_and,Ap,aZ,set_rep,ji];have ediv:Int.tdiv (((jw (o.drop (j+1)) n).2:Nat):Int) ((o[j].members.length:Nat):Int)=(((jw (o.drop (j+1)) n).2/o[j].members.length:Nat):Int):=rfl;have emod:Int.tmod (((jw (o.drop (j+1)) n).2:Nat):Int) ((o[j].members.length:Nat):Int)=(((jw (o.drop (j+1)) n).2%o[j].members.length:Nat):Int):=rfl;have cJ:=Nat.div_le_self (jw (o.drop (j+1)) n).2 o[j].members.length;rw[ediv,emod];clear ediv emod;generalize (jw (o.drop (j+1)) n).2/o[j].members.length=q at cJ ⊢;rw[zR (n:=(q:Int)) (by omega) (by omega),zR (by omega) (by omega)])
 have e0:o.drop (o.length-0)=[]:=by simp
 have e1:o.drop (o.length-o.length)=o:=by simp
 simp only[e0,e1] at hs;simp only[Ck,DA,AJ,Dd,jw,Bl] at hs;have dN:lpO (zjm o) ((n:Int),((o.length:Int)-1,List.replicate o.length (0:Int)))=some (.inl ((((jw o n).2:Nat):Int),(-1,(jw o n).1))):=by
  have ea:(o.length:Int)-((0:Nat):Int)-1=(o.length:Int)-1:=by omega
  have eb:(o.length:Int)-((o.length:Nat):Int)-1 = -1:=by omega
  rw[ea,eb] at hs;exact hs.trans (zF (by simp[zjm]))
 simp only[P69,S69,zm bd,zW,Ap,BV];rw[zR (by omega) (by omega),dN];rfl
def badM (x:Int×Dim):Bool:=decide (x.1<0) || decide ((x.2.members.length:Int)<=x.1)
def jv (o:List Dim) (p:List Int):Int:=if ¬p.length=o.length then 3 else if (p.zip o).any badM=true then 1 else 0
structure Fit (o:List Dim) (p:List Int):Prop where
 len:p.length=o.length
 mem:∀(i:Nat) (m:Int) (d:Dim),p[i]? = some m->o[i]? = some d->0<=m∧m<d.members.length
def jB {o:List Dim} {p:List Int}:jv o p=0↔Fit o p:=by
 unfold jv;by_cases h1:p.length=o.length
 ·rw[if_neg (by simpa using h1)];by_cases h2:(p.zip o).any badM=true
  ·rw[if_pos h2];refine⟨fun e=>(by cases e),fun h => ?_⟩;obtain⟨x,hx,hb⟩:=BX.1 h2;obtain⟨i,hi⟩:=AA.1 hx;obtain⟨e1,e2⟩:=Bm.1 hi;have:=h.mem i _ _ e1 e2;simp only[badM,B5,decide_eq_true_eq] at hb;omega
  ·rw[if_neg h2];refine⟨fun _=>⟨h1,fun i m d hm hd => ?_⟩,fun _=>rfl⟩;have hx:(m,d)∈p.zip o:=AA.2 ⟨i,Bm.2 ⟨hm,hd⟩⟩;have:¬badM (m,d)=true:=fun e=>h2 (BX.2 ⟨_,hx,e⟩);simp only[badM,B5,decide_eq_true_eq] at this;omega
 ·rw[if_pos h1];exact⟨fun e=>(by cases e),fun h=>absurd h.len h1⟩
def zjo (o:List Dim) (p:List Int) (h:p.length<=9223372036854775807):P58 o p=some (zn (jv o p)):=by
 simp only[P58,S58];unfold jv;by_cases h1:p.length=o.length
 ·have e:((p.length:Nat):Int)=((o.length:Nat):Int):=by omega
  rw[if_neg (by simpa using h1)];simp only[e,not_true,decide_false,za];rw[zhz badM (p.zip o) (Err.no 1) Err.nil (fun i y hy => ?_) (by rw[Co,←h1,De];simp[S58_L1])]
  ·cases (p.zip o).any badM<;>simp[zn]
  ·obtain⟨e1,e2⟩:=Bm.1 hy;have hi:=(Ac.1 e1).1;have e:((i:Nat):Int)<((p.length:Nat):Int):=by omega
   simp only[S58_L1,e,decide_true,ze,zg,e1,e2,zj,badM];rw[zR (by omega) (by omega)];by_cases c1:y.1<0
   ·simp[c1]
   ·by_cases c2:(y.2.members.length:Int)<=y.1<;>simp[c1,c2]
 ·have e:¬((p.length:Nat):Int)=((o.length:Nat):Int):=by omega
  rw[if_pos h1];simp[e,zn]
def jX (o:List Dim) (p:List Int):Bool:=(p.zip o).all fun x=>yi x.2.members x.1.toNat
def all_any {α:Type} (f:α->Bool) (l:List α):l.all f = !l.any fun x => !f x:=by
 induction l with
 | nil=>rfl
 | cons a l ih=>simp only[Bg,Cf,ih];cases f a<;>rfl
def P59_eq {o:List Dim} {p:List Int} (hf:Fit o p) (h:p.length<=9223372036854775807) (hd:∀d∈o,d.members.length<=1000):P59 o p=some (jX o p):=by
 simp only[P59,S59];rw[zhz (fun x:Int×Dim => !yi x.2.members x.1.toNat) (p.zip o) false true (fun i y hy => ?_) (by rw[Co,←hf.len,De];simp[S59_L1])]
 ·rw[jX,all_any];cases (p.zip o).any fun x => !yi x.2.members x.1.toNat<;>rfl
 ·obtain⟨e1,e2⟩:=Bm.1 hy;have hi:=(Ac.1 e1).1;have e:((i:Nat):Int)<((p.length:Nat):Int):=by omega
  have hm:=hf.mem i _ _ e1 e2;have hl:=hd _ (Ae e2);obtain⟨k,hk⟩:=Bk hm.1;rw[hk] at hm e1;simp only[S59_L1,e,decide_true,ze,zg,e1,e2,zj,hk,P44_eq hl (by omega:k<y.2.members.length),Ap];rw[zR (by omega) (by omega)];cases yi y.2.members k<;>rfl
def numW (o:List Dim) (p:List Int):Int:=(p.zip o).foldl (fun n x=>wi (wi (n*(x.2.members.length:Int))+x.1)) 0
def P49_eq {o:List Dim} {p:List Int} (hl:p.length=o.length) (h:p.length<=9223372036854775807):P49 o p=some (numW o p):=by
 have hz:(p.zip o).length=p.length:=by rw[Co,←hl,De]
 have hs:=zP (B:=zjn o p) (fun i=>(((p.zip o).take i).foldl (fun n x=>wi (wi (n*(x.2.members.length:Int))+x.1)) 0,(i:Int))) p.length (fun i hi=>by
  have e:((i:Nat):Int)<((p.length:Nat):Int):=by omega
  have hx:(p.zip o)[i]? = some (p[i],o[i]'(by omega)):=Bm.2 ⟨Aa hi,Aa (by omega)⟩;simp only[zjn,e,decide_true,ze,zg,Aa hi,Aa (by omega:i<o.length),zj,ji];rw[zR (n:=(i:Int)+1) (by omega) (by omega),yE _ _ _ hx];rfl)
 have ht:(p.zip o).take p.length=p.zip o:=by rw[←hz,BA]
 rw[ht] at hs;have hs:lpO (zjn o p) (0,0)=some (.inl (numW o p,(p.length:Int))):=hs.trans (zF (by simp[zjn,numW]));simp only[P49,S49,zW,hs,zY]
end
section
def cmpL:List Int->List Int->Int
 | [],[]=>0
 | [],_::_ => -1
 | _::_,[]=>1
 | x::a,y::b=>if x<y then -1 else if y<x then 1 else cmpL a b
def P81_eq (a b:Int):P81 a b=some (if a<b then -1 else if b<a then 1 else 0):=by
 have e:∀n:Int,P84 n=some false:=fun n=>by simp[P84,S84]
 simp only[P81,S81,e,zj,za];by_cases h1:a<b
 ·simp[h1]
 ·by_cases h2:b<a<;>simp[h1,h2]
def cmp_loop (a b:List Int) (h:a.length<=9223372036854775807):∀(n i:Nat),a.length-i=n->i<=a.length->i<=b.length->jn (lpO (zgj P81 a b) (i:Int)) (fun _=>br (decide (((List.length a:Nat):Int)<((List.length b:Nat):Int))) (some (-1:Int)) (some (0:Int)))=some (cmpL (a.drop i) (b.drop i)):=by
 intro n
 induction n with
 | zero =>
  intro i hi hl hb;obtain rfl:i=a.length:=by omega
  rw[zF (y:=(a.length:Int)) (by simp[zgj])];rw[List.drop_length];simp only[zY];by_cases aj:a.length<b.length
  ·have e:((a.length:Nat):Int)<((b.length:Nat):Int):=by omega
   rw[BP aj];simp[e,cmpL]
  ·have e:¬((a.length:Nat):Int)<((b.length:Nat):Int):=by omega
   rw[Cn (by omega)];simp[e,cmpL]
 | succ n ih =>
  intro i hi hl hb;have pQ:i<a.length:=by omega
  have e:((i:Nat):Int)<((a.length:Nat):Int):=by omega
  rw[BP pQ];by_cases lg:i<b.length
  ·have e2:¬((b.length:Nat):Int)<=((i:Nat):Int):=by omega
   rw[BP lg];simp only[cmpL];have hB:zgj P81 a b (i:Int)=some (if a[i]<b[i] then .fin (-1) else if b[i]<a[i] then .fin 1 else .nx ((i:Int)+1)):=by
    simp only[zgj,e,e2,decide_true,decide_false,ze,za,zg,Aa pQ,Aa lg,zj,P81_eq];rw[zR (by omega) (by omega)];by_cases c1:a[i]<b[i]
    ·simp[c1]
    ·by_cases c2:b[i]<a[i]<;>simp[c1,c2]
   by_cases c1:a[i]<b[i]
   ·rw[if_pos c1] at hB ⊢;rw[jo hB];rfl
   ·rw[if_neg c1] at hB ⊢;by_cases c2:b[i]<a[i]
    ·rw[if_pos c2] at hB ⊢;rw[jo hB];rfl
    ·rw[if_neg c2] at hB ⊢;rw[qh hB];exact ih (i+1) (by omega) (by omega) (by omega)
  ·have e2:((b.length:Nat):Int)<=((i:Nat):Int):=by omega
   rw[Cn (by omega:b.length<=i),jo (a:=(1:Int)) (by simp[zgj,e,e2,zg,pQ])];rfl
def P74_eq (a b:List Int) (h:a.length<=9223372036854775807):P74 a b=some (cmpL a b):=by simp only[P74,S74,zW];exact cmp_loop a b h a.length 0 (by omega) (BM _) (BM _)
def zlU (a b:Entry) (h:a.at_.length<=9223372036854775807):P61 a b=some (cmpL a.at_ b.at_):=by simp[P61,S61,P74_eq _ _ h]
def jP (n:Int):Bool:=decide (-1000000<=n) && decide (n<=1000000)
def P60_eq (n:Int):P60 n=some (jP n):=by simp[P60,S60,jP]
def zdk (o:List Dim) (l:List Entry) (i:Nat) (e:Entry):Int :=
 if ¬jv o e.at_=0 then jv o e.at_ else if jX o e.at_=false then 6 else if jP e.n=false then 1
 else match i with|0=>0|j+1=>match l[j]? with|some e0=>if 0<=cmpL e0.at_ e.at_ then 7 else 0|none=>0
def zfD (o:List Dim) (l:List Entry):Int :=
 if ¬(je o).2.2=0 then (je o).2.2 else match (List.range l.length).findSome? fun i=>match l[i]? with|some e=>if zdk o l i e=0 then none else some (zdk o l i e)|none=>none with
 | some e=>e
 | none=>0
def P27_eq (o:List Dim) (l:List Entry) (hl:Lst Entry.gd l):P27 o l=some (zn (zfD o l)):=by
 simp only[P27,S27,P51_eq,zj,zB];unfold zfD;by_cases h0:(je o).2.2=0
 case neg=>simp[h0]
 have ok:=zbf.1 h0;have fA:∀d∈o,d.members.length<=1000:=fun d hd=>by have:=(ok.dims d hd).len;omega
 have hlen:=hl.1;rw[if_neg (by simpa using h0)];simp only[h0,decide_true,AW,za];have:=yo (B:=zlP P58 P59 P60 P61 o l) l.length (fun i=>match l[i]? with
  | some e=>if zdk o l i e=0 then none else some (zn (zdk o l i e))
  | none=>none) (fun i hi=>by
   have e:((i:Nat):Int)<((l.length:Nat):Int):=by omega
   have hm:=Aa hi;have hg:=hl.2 _ (Ay hi);generalize l[i]=x at hm hg;have ba:x.at_.length<=9223372036854775807:=hg.1.1;simp only[zlP,e,decide_true,ze,zg,hm,zj,zjo o _ ba,zB];rw[zR (n:=(i:Int)+1) (by omega) (by omega)];by_cases c1:jv o x.at_=0
   case neg =>
    have hE:zdk o l i x=jv o x.at_:=by unfold zdk;rw[if_pos c1]
    simp[hE,c1]
   have hf:=jB.1 c1;have nT:¬ ¬jv o x.at_=0:=fun h=>h c1;simp only[c1,decide_true,AW,za,P59_eq hf ba fA,zj,P60_eq];cases c2:jX o x.at_ with
   | false =>
    have hE:zdk o l i x=6:=by unfold zdk;rw[if_neg nT,if_pos c2]
    simp[hE,zn]
   | true =>
    have gD:¬jX o x.at_=false:=by rw[c2];simp
    cases c3:jP x.n with
    | false =>
     have hE:zdk o l i x=1:=by unfold zdk;rw[if_neg nT,if_neg gD,if_pos c3]
     simp[hE,zn]
    | true =>
     have ux:¬jP x.n=false:=by rw[c3];simp
     simp only[AW,za];cases i with
     | zero =>
      have hE:zdk o l 0 x=0:=by unfold zdk;rw[if_neg nT,if_neg gD,if_neg ux]
      simp[hE]
     | succ j =>
      have hj:j<l.length:=by omega
      have ej:=Aa hj;have hgj:=hl.2 _ (Ay hj);have hE:zdk o l (j+1) x=if 0<=cmpL l[j].at_ x.at_ then 7 else 0:=by unfold zdk;rw[if_neg nT,if_neg gD,if_neg ux];simp only[ej]
      have e0:(0:Int)<((j+1:Nat):Int):=by omega
      have e1:((j+1:Nat):Int)-1=(j:Int):=by omega
      simp only[e0,decide_true,ze,e1];rw[zR (n:=(j:Int)) (by omega) (by omega)];simp only[zg,ej,zj,zlU _ _ hgj.1.1,hE];by_cases c4:0<=cmpL l[j].at_ x.at_<;>simp[c4,zn]) (by simp[zlP])
 unfold lp;rw[this];have e2:((List.range l.length).findSome? fun i=>match l[i]? with
  | some e=>if zdk o l i e=0 then none else some (zn (zdk o l i e))
  | none=>none)=((List.range l.length).findSome? fun i=>match l[i]? with|some e=>if zdk o l i e=0 then none else some (zdk o l i e)|none=>none).map zn:=by
  rw[←qC];congr 1;funext i;cases l[i]? with
  | none=>rfl
  | some m=>by_cases h:zdk o l i m=0<;>simp[h]
 rw[e2];cases ((List.range l.length).findSome? fun i=>match l[i]? with|some e=>if zdk o l i e=0 then none else some (zdk o l i e)|none=>none) with
 | none=>simp[zn]
 | some r=>rfl
structure EntsOk (o:List Dim) (l:List Entry):Prop where
 out:OutOk o
 fit:∀e∈l,Fit o e.at_
 leaf:∀e∈l,jX o e.at_=true
 val:∀e∈l,jP e.n=true
 rise:∀(i:Nat) (a b:Entry),l[i]? = some a->l[i+1]? = some b->cmpL a.at_ b.at_<0
def zaG {o:List Dim} {l:List Entry}:zfD o l=0↔EntsOk o l:=by
 unfold zfD;by_cases h0:(je o).2.2=0
 case neg=>rw[if_pos h0];exact⟨fun e=>absurd e h0,fun e=>absurd (zbf.2 e.out) h0⟩
 rw[if_neg (by simpa using h0)];cases hm:(List.range l.length).findSome? fun i=>match l[i]? with|some e=>if zdk o l i e=0 then none else some (zdk o l i e)|none=>none with
 | some r =>
  obtain⟨i,hi,hr⟩:=AO hm;have hi:i<l.length:=by simpa using hi
  rw[Aa hi] at hr;simp only at hr;split at hr
  ·cases hr
  ·rename_i ah;cases hr;refine⟨fun h=>absurd h ah,fun h=>absurd ?_ ah⟩;have aP:=Ay hi;unfold zdk;rw[if_neg (by simpa using jB.2 (h.fit _ aP)),if_neg (by simp[h.leaf _ aP]),if_neg (by simp[h.val _ aP])];cases i with
   | zero=>rfl
   | succ j =>simp only;rw[Aa (by omega:j<l.length)];have:=h.rise j _ _ (Aa (by omega:j<l.length)) (Aa hi);simp only;rw[if_neg (by omega)]
 | none =>
  have hn:=A9.1 hm;have each:∀(i:Nat) (e:Entry),l[i]? = some e->zdk o l i e=0:=by
   intro i e hi;have aQ:=(Ac.1 hi).1;have:=hn i (by simpa using aQ);rw[hi] at this;simp only at this;split at this
   ·assumption
   ·cases this
  have parts:∀(i:Nat) (e:Entry),l[i]? = some e->jv o e.at_=0∧jX o e.at_=true∧jP e.n=true∧∀j e0,i=j+1->l[j]? = some e0->cmpL e0.at_ e.at_<0:=by
   intro i e hi;have:=each i e hi;unfold zdk at this;by_cases c1:jv o e.at_=0
   case neg=>rw[if_pos c1] at this;exact absurd this c1
   rw[if_neg (by simpa using c1)] at this;by_cases c2:jX o e.at_=false
   ·rw[if_pos c2] at this;cases this
   rw[if_neg c2] at this;by_cases c3:jP e.n=false
   ·rw[if_pos c3] at this;cases this
   rw[if_neg c3] at this;refine⟨c1,by simpa using c2,by simpa using c3,fun j e0 hj pM => ?_⟩;subst hj;simp only[pM] at this;split at this
   ·cases this
   ·omega
  refine⟨fun _=>⟨zbf.1 h0,fun e he => ?_,fun e he => ?_,fun e he => ?_,fun i a b ha hb=>(parts _ _ hb).2.2.2 i a rfl ha⟩,fun _=>rfl⟩
  ·obtain⟨i,hi⟩:=AA.1 he;exact jB.1 (parts i e hi).1
  ·obtain⟨i,hi⟩:=AA.1 he;exact (parts i e hi).2.1
  ·obtain⟨i,hi⟩:=AA.1 he;exact (parts i e hi).2.2.1
end
section
def cart {α:Type}:List (List α)->List (List α)
 | []=>[[]]
 | l::r=>l.flatMap fun k=>(cart r).map (k :: ·)
def wz {α β:Type} {f g:α->List β}:∀ {l:List α},(∀a∈l,f a=g a)->l.flatMap f=l.flatMap g
 | [],_=>rfl
 | a::l,h=>by rw[BC,BC,h a Ak,wz fun b hb=>h b (Ad _ hb)]
def zdj {α β γ:Type} (f:α->β) (g:β->List γ) (l:List α):(l.map f).flatMap g=l.flatMap fun a=>g (f a):=by
 induction l with
 | nil=>rfl
 | cons a l ih=>simp only[Aw,BC,ih]
def zde {α β γ:Type} (f:β->γ) (g:α->List β) (l:List α):(l.flatMap g).map f=l.flatMap fun a=>(g a).map f:=by
 induction l with
 | nil=>rfl
 | cons a l ih=>simp only[BC,Bc,ih]
def zdt {α β γ:Type} (f:α->List β) (g:β->List γ) (l:List α):(l.flatMap f).flatMap g=l.flatMap fun a=>(f a).flatMap g:=by
 induction l with
 | nil=>rfl
 | cons a l ih=>simp only[BC,DB,ih]
def zjc {α:Type}:∀(Ls:List (List α)) (acc:List (List α)),Ls.foldl (fun out l=>out.flatMap fun q=>l.map fun k=>q++[k]) acc=acc.flatMap fun q=>(cart Ls).map fun t=>q++t
 | [],acc=>by
  simp only[Dv,cart,Aw,Bn,Bl]
  induction acc with
  | nil=>rfl
  | cons a l ih=>simp only[BC,←ih];rfl
 | l::Ls,acc=>by
  rw[Be,zjc Ls,zdt];congr 1;funext q;rw[zdj];simp only[cart,zde,A6];congr 1;funext k;congr 1;funext t;simp
def range_mul (a b:Nat):List.range (a*b)=(List.range a).flatMap fun q=>(List.range b).map fun s=>q*b+s:=by
 induction a with
 | zero=>simp
 | succ a ih =>rw[Nat.succ_mul,List.range_add,ih,Cb,DB];simp
def sizeN (o:List Dim):Nat:=o.foldr (fun d n=>d.members.length*n) 1
def zeQ (o:List Dim) (hp:∀d∈o,0<d.members.length):∀(q s:Nat),s<sizeN o->jw o (q*sizeN o+s)=((jw o s).1,q):=by
 induction o with
 | nil=>intro q s hs;simp[sizeN] at hs;subst hs;simp[jw,sizeN]
 | cons d r ih =>
  intro q s hs;have dv:∀x∈r,0<x.members.length:=fun x hx=>hp x (Ad _ hx);have hd:=hp d Ak;have hS:sizeN (d::r)=d.members.length*sizeN r:=rfl;have hSr:0<sizeN r:=by
   cases h:sizeN r with
   | zero=>rw[hS,h] at hs;simp at hs
   | succ=>omega
  rw[hS] at hs ⊢;have aM:s=(s/sizeN r)*sizeN r+s%sizeN r:=by rw[Ct];exact (Nat.div_add_mod s (sizeN r)).symm
  have dN:s%sizeN r<sizeN r:=CG _ hSr;have tu:s/sizeN r<d.members.length:=Dq (by rw[Ct];exact hs);have e1:q*(d.members.length*sizeN r)+s=(q*d.members.length+s/sizeN r)*sizeN r+s%sizeN r:=(by rw[Bb,C6,A5];omega);have d1:=ih dv (q*d.members.length+s/sizeN r) (s%sizeN r) dN;have d2:=ih dv (s/sizeN r) (s%sizeN r) dN;rw[←e1] at d1;rw[←aM] at d2;simp only[jw,d1,d2];rw[DG (q*d.members.length),Nat.add_mul_mod_self_right,CH tu,Nat.add_mul_div_right _ _ hd,Nat.div_eq_of_lt tu,AY]
def zjU (o:List Dim) (hp:∀d∈o,0<d.members.length):(List.range (sizeN o)).map (fun n=>(jw o n).1)=cart (o.map fun d=>(List.range d.members.length).map fun (k:Nat)=>(k:Int)):=by
 induction o with
 | nil=>rfl
 | cons d r ih =>
  have dv:∀x∈r,0<x.members.length:=fun x hx=>hp x (Ad _ hx);have hS:sizeN (d::r)=d.members.length*sizeN r:=rfl;rw[hS,range_mul,zde,Aw,cart,zdj,←ih dv];refine wz fun q hq => ?_;rw[A6,A6];refine Am fun s hs => ?_;have ae:s<sizeN r:=by simpa using hs
  have pt:q<d.members.length:=by simpa using hq
  simp only[Function.comp,jw,zeQ r dv q s ae,CH pt]
def zeG {α β:Type} (p:β->Bool) (g:α->List β) (l:List α):(l.flatMap g).filter p=l.flatMap fun a=>(g a).filter p:=by
 induction l with
 | nil=>rfl
 | cons a l ih=>simp only[BC,CW,ih]
def zeE {α β:Type} (p:α->Bool) (g:α->List β) (l:List α):(l.filter p).flatMap g=l.flatMap fun a=>if p a=true then g a else []:=by
 induction l with
 | nil=>rfl
 | cons a l ih=>rw[List.filter_cons,BC,←ih];cases p a<;>simp
def zjl {α:Type}:List (α->Bool)->List α->Bool
 | f::fs,x::xs=>f x && zjl fs xs
 | _,_=>true
def zeH {α:Type}:∀(fs:List (α->Bool)) (Ls:List (List α)),fs.length=Ls.length->(cart Ls).filter (zjl fs)=cart (List.zipWith (fun f l=>l.filter f) fs Ls)
 | [],[],_=>rfl
 | f::fs,l::Ls,h=>by
  simp only[Ax,C7] at h;simp only[List.zipWith_cons_cons,cart];rw[zeG,zeE,←zeH fs Ls h];refine wz fun k _ => ?_;rw[List.filter_map];cases hk:f k with
  | true =>rw[if_pos rfl];congr 1;refine List.filter_congr fun t _ => ?_;simp[Function.comp,zjl,hk]
  | false =>
   have:(cart Ls).filter (zjl (f::fs)∘fun x=>k::x)=[]:=List.filter_eq_nil_iff.2 fun t _=>by simp[Function.comp,zjl,hk]
   rw[this];simp
 | [],_::_,h=>by simp at h
 | _::_,[],h=>by simp at h
end
section
def size_fold:∀(o:List Dim) (n:Nat),(∀d∈o,0<d.members.length)->n*sizeN o<=1000000000->o.foldl (fun n d=>wi (n*((d.members.length:Nat):Int))) (n:Int)=((n*sizeN o:Nat):Int)
 | [],n,_,_=>by simp[sizeN]
 | d::r,n,hp,hb=>by
  have hS:sizeN (d::r)=d.members.length*sizeN r:=rfl;have dv:∀x∈r,0<x.members.length:=fun x hx=>hp x (Ad _ hx);rw[hS,←C6] at hb;have hr:0<sizeN r:=by
   clear hb hS hp
   induction r with
   | nil=>simp[sizeN]
   | cons a r ih =>have h1:=dv a Ak;have h2:=ih fun x hx=>dv x (Ad _ hx);show 0<a.members.length*sizeN r;exact Nat.mul_pos h1 h2
  have cO:n*d.members.length<=1000000000:=AD (Nat.le_mul_of_pos_right _ hr) hb;have hw:wi ((n:Int)*((d.members.length:Nat):Int))=((n*d.members.length:Nat):Int):=(by rw[←Int.natCast_mul,zR (by omega) (by omega)]);rw[Be,hw,size_fold r _ dv hb,hS,←C6]
def size_le:∀(o:List Dim),(∀d∈o,d.members.length<=12)->sizeN o<=12 ^ o.length
 | [],_=>by simp[sizeN]
 | d::r,h=>by
  have h1:=h d Ak;have h2:=size_le r fun x hx=>h x (Ad _ hx);show d.members.length*sizeN r<=_;rw[Ax,Nat.pow_succ,Ct];exact B7 h2 h1
def pow_le {n:Nat} (h:n<=4):12 ^ n<=20736:=by have:(12:Nat) ^ n<=12 ^ 4:=CL (by omega) h;simpa using this
def OutOk.sizeN {o:List Dim} (ok:OutOk o):zia o=(sizeN o:Nat)∧Ab.sizeN o<=20736:=by have h1:=size_le o fun d hd=>(ok.dims d hd).len.2;have h2:=pow_le ok.len.2;refine⟨?_,by omega⟩;have:=size_fold o 1 (fun d hd=>(ok.dims d hd).len.1) (by omega);rw[Nat.one_mul] at this;exact this
def zhh {o:List Dim} (ok:OutOk o) (n:Nat):Fit o (jw o n).1:=by
 have hp:∀d∈o,0<d.members.length:=fun d hd=>(ok.dims d hd).len.1;refine⟨zhg o n, ?_⟩;clear ok
 induction o with
 | nil=>intro i m d h;simp[jw] at h
 | cons d r ih =>
  intro i m e hm he;cases i with
  | zero =>simp only[jw,B4,DM] at hm he;subst hm;subst he;have:=CG (jw r n).2 (hp d Ak);omega
  | succ i =>simp only[jw,A4] at hm he;exact ih (fun x hx=>hp x (Ad _ hx)) i m e hm he
def zci:List Dim->List Int->Nat
 | _::o,m::p=>m.toNat*sizeN o+zci o p
 | _,_=>0
def Fit.tail {d:Dim} {o:List Dim} {m:Int} {p:List Int} (h:Fit (d::o) (m::p)):(0<=m∧m<d.members.length)∧Fit o p :=
 ⟨h.mem 0 m d rfl rfl,by simpa using h.len,fun i m' d' hm hd=>h.mem (i+1) m' d' (by simpa using hm) (by simpa using hd)⟩
def zdc:∀ {o:List Dim} {p:List Int},Fit o p->zci o p<sizeN o
 | [],[],_=>by simp[zci,sizeN]
 | [],_::_,h=>by have:=h.len;simp at this
 | _::_,[],h=>by have:=h.len;simp at this
 | d::o,m::p,h=>by
  obtain⟨h1,h2⟩:=h.tail;have:=zdc h2;have e:sizeN (d::o)=d.members.length*sizeN o:=rfl;have h3:(m.toNat+1)*sizeN o<=d.members.length*sizeN o:=AH _ (by omega);rw[Bb] at h3;simp only[zci,e];omega
def yd:∀ {o:List Dim} {p:List Int},(∀d∈o,0<d.members.length)->Fit o p->jw o (zci o p)=(p,0)
 | [],[],_,_=>rfl
 | [],_::_,_,h=>by have:=h.len;simp at this
 | _::_,[],_,h=>by have:=h.len;simp at this
 | d::o,m::p,hp,h=>by
  obtain⟨h1,h2⟩:=h.tail;have iL:∀d∈o,0<d.members.length:=fun x hx=>hp x (Ad _ hx);have ih:=yd iL h2;have hd:=zeQ o iL m.toNat (zci o p) (zdc h2);have aj:m.toNat<d.members.length:=by omega
  simp only[zci,jw,hd,ih,CH aj,Nat.div_eq_of_lt aj];rw[CQ h1.1]
def zhf:∀ {o:List Dim},(∀d∈o,0<d.members.length)->∀ {n:Nat},n<sizeN o->zci o (jw o n).1=n
 | [],_,n,h=>by simp[sizeN] at h;subst h;rfl
 | d::o,hp,n,h=>by
  have iL:∀d∈o,0<d.members.length:=fun x hx=>hp x (Ad _ hx);have e:sizeN (d::o)=d.members.length*sizeN o:=rfl;have hs:0<sizeN o:=by
   cases hq:sizeN o with
   | zero=>rw[e,hq] at h;simp at h
   | succ=>omega
  have h1:n=(n/sizeN o)*sizeN o+n%sizeN o:=by rw[Ct];exact (Nat.div_add_mod n (sizeN o)).symm
  have h2:n%sizeN o<sizeN o:=CG _ hs;have h3:n/sizeN o<d.members.length:=Dq (by rw[Ct];exact e▸h);have hd:=zeQ o iL (n/sizeN o) (n%sizeN o) h2;rw[←h1] at hd;simp only[jw,hd,zci,Ap,CH h3,zhf iL h2];exact h1.symm
def zlb:∀(o:List Dim) (p:List Int) (n:Nat),(∀d∈o,0<d.members.length)->Fit o p->(n+1)*sizeN o<=1000000000 ->
  (p.zip o).foldl (fun n x=>wi (wi (n*(x.2.members.length:Int))+x.1)) (n:Int)=((n*sizeN o+zci o p:Nat):Int)
 | [],[],n,_,_,_=>by simp[sizeN,zci]
 | [],_::_,_,_,h,_=>by have:=h.len;simp at this
 | _::_,[],_,_,h,_=>by have:=h.len;simp at this
 | d::o,m::p,n,hp,h,hb=>by
  obtain⟨h1,h2⟩:=h.tail;have iL:∀d∈o,0<d.members.length:=fun x hx=>hp x (Ad _ hx);have e:sizeN (d::o)=d.members.length*sizeN o:=rfl;have aO:0<sizeN o:=by have:=zdc h2;omega
  have cr:(n*d.members.length+m.toNat+1)*sizeN o<=(n+1)*(d.members.length*sizeN o):=(by rw[←C6];refine AH _ ?_;rw[Bb,Nat.one_mul];omega);rw[e] at hb;have hle:n*d.members.length+m.toNat+1<=1000000000:=AD (Nat.le_mul_of_pos_right _ aO) (AD cr hb);have ih:=zlb o p (n*d.members.length+m.toNat) iL h2 (AD cr hb);simp only[DE,Be];have e1:wi ((n:Int)*((d.members.length:Nat):Int))=((n*d.members.length:Nat):Int):=by
   have e0:(n:Int)*((d.members.length:Nat):Int)=((n*d.members.length:Nat):Int):=by simp
   rw[e0,zR (by omega) (by omega)]
  have e2:wi (((n*d.members.length:Nat):Int)+m)=((n*d.members.length+m.toNat:Nat):Int):=(by rw[zR (by omega) (by omega)];omega);rw[e1,e2,ih];congr 1;simp only[zci,e];rw[Bb,C6,A5]
def numW_eq {o:List Dim} {p:List Int} (ok:OutOk o) (h:Fit o p):numW o p=((zci o p:Nat):Int):=by have hp:∀d∈o,0<d.members.length:=fun d hd=>(ok.dims d hd).len.1;have hs:=ok.sizeN.2;have:=zlb o p 0 hp h (by omega);simpa[numW] using this
end
end Ab
