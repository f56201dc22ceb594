import Derived.Test.YtchidgkpkhloeaaGreatDoorHJ
import Derived.Test.YtchidgkpkhloeaaGreatDoorH2
import Derived.Test.YtchidgkpkhloeaaGreatDoorF4
set_option linter.all false
namespace Ab
open Go
section
@[simp] def P92_nil (e:Int):P92 .nil e=some (decide (0=e)):=rfl
@[simp] def P92_no (k e:Int):P92 (.no k) e=some (decide (k=e)):=rfl
@[simp] def P92_errOf (k e:Int):P92 (zB k) e=some (decide (k=e)):=by
 unfold zB;split
 ·subst k;rfl
 ·rfl
def zbl {β:Type} [DecidableEq β] {B:Int->Option (LR Int Bool)} (a b:List β) (hl:a.length=b.length) (h:∀ (i:Nat) (x y:β),a[i]? = some x->b[i]? = some y->B (i:Int)=some (if x=y then .nx ((i:Int)+1) else .fin false)) (hn:B (a.length:Int)=some (.dn (a.length:Int))) :
  lp B 0 (fun _=>some true)=some (decide (a=b)):=by
 have:=wK (B:=B) (fun p:β×β=>decide (¬ p.1=p.2)) (a.zip b) false true (fun i y hy=>by
  obtain ⟨h1,h2⟩:=Bk.1 hy;rw[h i _ _ h1 h2];by_cases e:y.1=y.2<;>simp[e]) (by rw[Cj,← hl,CA];exact hn)
 rw[this];congr 1;by_cases e:a=b
 ·subst e;have:((a.zip a).any fun p=>decide (¬ p.1=p.2))=false:=(by simp only[Cq];intro p hp;have:=AB.1 hp;obtain ⟨i,hi⟩:=this;obtain ⟨h1,h2⟩:=Bk.1 hi;rw[h1] at h2;simp[Option.some.inj h2]);rw[this];simp
 ·have:((a.zip b).any fun p=>decide (¬ p.1=p.2))=true:=by
   cases hc:((a.zip b).any fun p=>decide (¬ p.1=p.2)) with
   | true=>rfl
   | false =>
    exfalso;apply e;apply B1;intro i;by_cases hi:i < a.length
    ·have hp:(a.zip b)[i]? = some (a[i],b[i]'(by omega)):=Bk.2 ⟨Aa hi,Aa (by omega)⟩;have:=Cq.1 hc _ (AB.2 ⟨i,hp⟩);simp at this;rw[Aa hi,Aa (by omega),this]
    ·rw[AH (by omega),AH (by omega)]
  rw[if_pos this];simp[e]
def zes (a b:List Int) (h:a.length<=9223372036854775807):P104 a b=some (decide (a=b)):=by
 simp only[P104,S104];by_cases hl:a.length=b.length
 ·have e:((a.length:Nat):Int)=((b.length:Nat):Int):=by omega
  simp only[e,not_true,decide_false,zd];refine zbl a b hl (fun i x y hx hy => ?_) (by simp[zi4]);have hi:=(Ac.1 hx).1;have e:((i:Nat):Int) < ((a.length:Nat):Int):=by omega
  simp only[zi4,e,decide_true,zo,za,hx,hy,zi];rw[qp (by omega) (by omega)];by_cases e:x=y<;>simp[e]
 ·have e:¬ ((a.length:Nat):Int)=((b.length:Nat):Int):=by omega
  have e2:¬ a=b:=fun e=>hl (by rw[e]);simp[e,e2]
def P28_eq (a b:List Int) (h:a.length<=9223372036854775807):P28 a b=some (decide (a=b)):=by
 simp only[P28,S28];by_cases hl:a.length=b.length
 ·have e:((a.length:Nat):Int)=((b.length:Nat):Int):=by omega
  simp only[e,not_true,decide_false,zd];refine zbl a b hl (fun i x y hx hy => ?_) (by simp[S28_L1]);have hi:=(Ac.1 hx).1;have e:((i:Nat):Int) < ((a.length:Nat):Int):=by omega
  simp only[S28_L1,e,decide_true,zo,za,hx,hy,zi];rw[qp (by omega) (by omega)];by_cases e:x=y<;>simp[e]
 ·have e:¬ ((a.length:Nat):Int)=((b.length:Nat):Int):=by omega
  have e2:¬ a=b:=fun e=>hl (by rw[e]);simp[e,e2]
def P24_eq (a b:List Cell) (h:a.length<=9223372036854775807):P24 a b=some (decide (a=b)):=by
 simp only[P24,S24];by_cases hl:a.length=b.length
 ·have e:((a.length:Nat):Int)=((b.length:Nat):Int):=by omega
  simp only[e,not_true,decide_false,zd];refine zbl a b hl (fun i x y hx hy => ?_) (by simp[S24_L1]);have hi:=(Ac.1 hx).1;have e:((i:Nat):Int) < ((a.length:Nat):Int):=by omega
  simp only[S24_L1,e,decide_true,zo,za,hx,hy,zi];rw[qp (by omega) (by omega)];have e2:x=y↔x.k=y.k∧x.n=y.n:=by cases x;cases y;simp
  by_cases h1:x.k=y.k<;>by_cases h2:x.n=y.n<;>simp[e2,h1,h2]
 ·have e:¬ ((a.length:Nat):Int)=((b.length:Nat):Int):=by omega
  have e2:¬ a=b:=fun e=>hl (by rw[e]);simp[e,e2]
end
section
section
variable {o:List Dim} {p k:List Int} (ok:OutOk o) (hp:Fit o p) (hk:Fit o k)
include ok hp hk
end
def P123_eq (o:List Dim) (p:List Int) (h:p.length<=9223372036854775807):P123 o p=some (zaP o p):=by
 simp only[P123,S123];unfold zaP;by_cases h1:p.length=o.length
 ·have e:((p.length:Nat):Int)=((o.length:Nat):Int):=by omega
  rw[if_neg (by simpa using h1)];simp only[e,not_true,decide_false,zd];rw[wK badM (p.zip o) 1 0 (fun i y hy => ?_) (by rw[Cj,← h1,CA];simp[zi3])]
  ·obtain ⟨e1,e2⟩:=Bk.1 hy;have hi:=(Ac.1 e1).1;have e:((i:Nat):Int) < ((p.length:Nat):Int):=by omega
   simp only[zi3,e,decide_true,zo,za,e1,e2,zi,badM];rw[qp (by omega) (by omega)];by_cases c1:y.1 < 0
   ·simp[c1]
   ·by_cases c2:(y.2.members.length:Int)<=y.1<;>simp[c1,c2]
 ·have e:¬ ((p.length:Nat):Int)=((o.length:Nat):Int):=by omega
  rw[if_pos h1];simp[e]
def P125_eq (o:List Dim):P125 o=some (ja o).2.2:=by simp[P125,S125,P94_eq]
def P130_eq {o:List Dim} {p:List Int} (hf:Fit o p) (h:p.length<=9223372036854775807) (hd:∀ d∈o,d.members.length<=1000):P130 o p=some (zcW o p):=by
 simp only[P130,S130];rw[wK (fun x:Int×Dim => !wU x.2.members x.1.toNat) (p.zip o) false true (fun i y hy => ?_) (by rw[Cj,← hf.len,CA];simp[zi1])]
 ·rw[zcW,all_any];cases (p.zip o).any fun x => !wU x.2.members x.1.toNat<;>rfl
 ·obtain ⟨e1,e2⟩:=Bk.1 hy;have hi:=(Ac.1 e1).1;have e:((i:Nat):Int) < ((p.length:Nat):Int):=by omega
  have hm:=hf.mem i _ _ e1 e2;have hl:=hd _ (Ae e2);obtain ⟨k,hk⟩:=CN hm.1;rw[hk] at hm e1;simp only[zi1,e,decide_true,zo,za,e1,e2,zi,hk,P102_eq hl (by omega:k < y.2.members.length),Aj];rw[qp (by omega) (by omega)];cases wU y.2.members k<;>rfl
def less_loop (a b:List Int) (h:a.length<=9223372036854775807):∀ (n i:Nat),a.length - i=n->i<=a.length->i<=b.length->jn (lpO (zcv a b) (i:Int)) (fun _=>some (decide (((List.length a:Nat):Int) < ((List.length b:Nat):Int))))=some (decide (cmpL (a.drop i) (b.drop i) < 0)):=by
 intro n
 induction n with
 | zero =>
  intro i hi hl hb;obtain rfl:i=a.length:=by omega
  rw[zI (y:=(a.length:Int)) (by simp[zcv])];rw[List.drop_length];simp only[zX];by_cases ae:a.length < b.length
  ·have e:((a.length:Nat):Int) < ((b.length:Nat):Int):=by omega
   rw[Ba ae];simp[e,cmpL]
  ·have e:¬ ((a.length:Nat):Int) < ((b.length:Nat):Int):=by omega
   rw[B7 (by omega)];simp[e,cmpL]
 | succ n ih =>
  intro i hi hl hb;have kF:i < a.length:=by omega
  have e:((i:Nat):Int) < ((a.length:Nat):Int):=by omega
  rw[Ba kF];by_cases iS:i < b.length
  ·have e2:((i:Nat):Int) < ((b.length:Nat):Int):=by omega
   rw[Ba iS];have hB:zcv a b (i:Int)=some (if a[i]=b[i] then .nx ((i:Int)+1) else .fin (decide (a[i] < b[i]))):=(by simp only[zcv,e,e2,decide_true,zo,zq,zX,za,Aa kF,Aa iS,zi];rw[qp (by omega) (by omega)];by_cases c1:a[i]=b[i]<;>simp[c1])
   by_cases c0:a[i]=b[i]
   ·rw[if_pos c0] at hB;have hc:cmpL (a[i] :: a.drop (i+1)) (b[i] :: b.drop (i+1))=cmpL (a.drop (i+1)) (b.drop (i+1)):=(by simp only[cmpL];rw[if_neg (by omega),if_neg (by omega)]);rw[wg hB,hc];exact ih (i+1) (by omega) (by omega) (by omega)
   ·rw[if_neg c0] at hB;rw[zac hB];by_cases c1:a[i] < b[i]
    ·have hc:cmpL (a[i] :: a.drop (i+1)) (b[i] :: b.drop (i+1)) = -1:=by simp only[cmpL];rw[if_pos c1]
     rw[hc];simp[c1]
    ·have c2:b[i] < a[i]:=by omega
     have hc:cmpL (a[i] :: a.drop (i+1)) (b[i] :: b.drop (i+1))=1:=by simp only[cmpL];rw[if_neg c1,if_pos c2]
     rw[hc];simp[c1]
  ·have e2:¬ ((i:Nat):Int) < ((b.length:Nat):Int):=by omega
   have e3:¬ ((a.length:Nat):Int) < ((b.length:Nat):Int):=by omega
   rw[B7 (by omega:b.length<=i),zI (y:=(i:Int)) (by simp[zcv,e,e2])];simp[e3,cmpL]
def zgJ (a b:List Int) (h:a.length<=9223372036854775807):P151 a b=some (decide (cmpL a b < 0)):=by simp only[P151,S151,zV];exact less_loop a b h a.length 0 (by omega) (BB _) (BB _)
def P122_eq (o:List Dim) (l:List Entry) (hl:Lst Entry.gd l):P122 o l=some (ziA o l):=by
 simp only[P122,S122,P125_eq,zi];unfold ziA;by_cases h0:(ja o).2.2=0
 case neg=>simp[h0]
 have ok:=zbs.1 h0;have dt:∀ d∈o,d.members.length<=1000:=fun d hd=>by have:=(ok.dims d hd).len;omega
 have hlen:=hl.1;rw[if_neg (by simpa using h0)];simp only[h0,not_true,decide_false,zd];have:=jj (B:=zgC P123 P130 P151 o l) l.length (fun i=>match l[i]? with
  | some e=>if wo o l i e=0 then none else some (wo o l i e)
  | none=>none) (fun i hi=>by
   have e:((i:Nat):Int) < ((l.length:Nat):Int):=by omega
   have hm:=Aa hi;have hg:=hl.2 _ (Ay hi);generalize l[i]=x at hm hg;have aq:x.at_.length<=9223372036854775807:=hg.1.1;simp only[zgC,e,decide_true,zo,za,hm,zi,P123_eq o _ aq];rw[qp (n:=(i:Int)+1) (by omega) (by omega)];by_cases c1:zaP o x.at_=0
   case neg =>
    have hE:wo o l i x=zaP o x.at_:=by unfold wo;rw[if_pos c1]
    simp[hE,c1]
   have hf:=zfL.1 c1;have gz:¬ ¬ zaP o x.at_=0:=fun h=>h c1;simp only[c1,not_true,decide_false,zd,P130_eq hf aq dt,zi];cases c2:zcW o x.at_ with
   | false =>
    have hE:wo o l i x=6:=by unfold wo;rw[if_neg gz,if_pos c2]
    simp[hE]
   | true =>
    have dP:¬ zcW o x.at_=false:=by rw[c2];simp
    have hv:∀ k:Bool->Option (LR Int Int),jn (σ:=Bool) (α:=LR Int Int) (br (decide (x.n < -1000000)) (zt (some true)) (zt (some (decide ((1000000:Int) < x.n))))) k=k (!zbR x.n):=by
     intro k;unfold zbR;by_cases d1:x.n < -1000000
     ·have:¬ -1000000<=x.n:=by omega
      simp[d1,this]
     ·have : -1000000<=x.n:=by omega
      by_cases d2:1000000 < x.n
      ·have d3:¬ x.n<=1000000:=by omega
       simp[d1,this,d2,d3]
      ·have d3:x.n<=1000000:=by omega
       simp[d1,this,d2,d3]
    simp only[Bm,zd,hv];cases c3:zbR x.n with
    | false =>
     have hE:wo o l i x=1:=by unfold wo;rw[if_neg gz,if_neg dP,if_pos c3]
     simp[hE]
    | true =>
     have kl:¬ zbR x.n=false:=by rw[c3];simp
     simp only[Bm,zd];cases i with
     | zero =>
      have hE:wo o l 0 x=0:=by unfold wo;rw[if_neg gz,if_neg dP,if_neg kl]
      simp[hE]
     | succ j =>
      have hj:j < l.length:=by omega
      have ej:=Aa hj;have sj:=hl.2 _ (Ay hj);have hE:wo o l (j+1) x=if 0<=cmpL l[j].at_ x.at_ then 7 else 0:=by unfold wo;rw[if_neg gz,if_neg dP,if_neg kl];simp only[ej]
      have e0:¬ ((j+1:Nat):Int)=0:=by omega
      have e1:((j+1:Nat):Int) - 1=(j:Int):=by omega
      simp only[e0,decide_false,zd,e1];rw[qp (n:=(j:Int)) (by omega) (by omega)];simp only[za,ej,zi,zgJ _ _ sj.1.1,hE];by_cases c4:0<=cmpL l[j].at_ x.at_
      ·have c5:¬ cmpL l[j].at_ x.at_ < 0:=by omega
       simp[c4,c5]
      ·have c5:cmpL l[j].at_ x.at_ < 0:=by omega
       simp[c4,c5]) (by simp[zgC])
 unfold lp;rw[this];cases ((List.range l.length).findSome? fun i=>match l[i]? with | some e=>if wo o l i e=0 then none else some (wo o l i e) | none=>none) with
 | none=>simp
 | some r=>rfl
end
section
def zja (o:List Dim) (n:Nat) (hl:o.length<=1000) (hn:n<=1000000000) (hp:∀ d∈o,0 < d.members.length∧d.members.length<=1000000):zlc o (n:Int)=some (qJ o n).1:=by have bN:S142_L1 o=zfe o:=rfl;have:=zkg o n hl hn hp;simp only[P69,S69,Aj,BN] at this;simp only[zlc,S142,Aj,bN];exact this
def zjc (a b:List (List Int)) (h:a.length<=9223372036854775807) (hx:∀ x∈a,x.length<=9223372036854775807):P128 a b=some (decide (a=b)):=by
 simp only[P128,S128];by_cases hl:a.length=b.length
 ·have e:((a.length:Nat):Int)=((b.length:Nat):Int):=by omega
  simp only[e,not_true,decide_false,zd];refine zbl a b hl (fun i x y rC hy => ?_) (by simp[oG]);have hi:=(Ac.1 rC).1;have e:((i:Nat):Int) < ((a.length:Nat):Int):=by omega
  simp only[oG,e,decide_true,zo,za,rC,hy,zi,P28_eq x y (hx x (Ae rC))];rw[qp (by omega) (by omega)];by_cases e:x=y<;>simp[e]
 ·have e:¬ ((a.length:Nat):Int)=((b.length:Nat):Int):=by omega
  have e2:¬ a=b:=fun e=>hl (by rw[e]);simp[e,e2]
end
end Ab
