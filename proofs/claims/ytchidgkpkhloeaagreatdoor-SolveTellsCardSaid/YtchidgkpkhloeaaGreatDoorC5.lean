import Derived.Test.YtchidgkpkhloeaaGreatDoorHJ
import Derived.Test.YtchidgkpkhloeaaGreatDoorC4
import Derived.Test.YtchidgkpkhloeaaGreatDoorF4
import Derived.Test.YtchidgkpkhloeaaGreatDoorQS
set_option linter.unusedVariables false
set_option linter.unusedSimpArgs false
set_option linter.unusedSectionVars false
namespace Ab
open Go
section
section
variable {o:List Dim} {p k:List Int} (ok:OutOk o) (hp:Fit o p) (hk:Fit o k)
include ok hp hk
end
theorem P123_eq (o:List Dim) (p:List Int) (h:p.length<=9223372036854775807):P123 o p=some (ji o p):=by
 simp only[P123,S123];unfold ji;by_cases h1:p.length=o.length
 ·have e:((p.length:Nat):Int)=((o.length:Nat):Int):=by omega
  rw[if_neg (by simpa using h1)];simp only[e,not_true,decide_false,zg];rw[zao badM (p.zip o) 1 0 (fun i y hy => ?_) (by rw[List.length_zip,← h1,Nat.min_self];simp[zic])]
  ·obtain ⟨e1,e2⟩:=List.getElem?_zip_eq_some.1 hy;have hi:=(List.getElem?_eq_some_iff.1 e1).1;have e:((i:Nat):Int) < ((p.length:Nat):Int):=by omega
   simp only[zic,e,decide_true,zo,za,e1,e2,zk,badM];rw[qH (by omega) (by omega)];by_cases c1:y.1 < 0
   ·simp[c1]
   ·by_cases c2:(y.2.members.length:Int)<=y.1<;>simp[c1,c2]
 ·have e:¬ ((p.length:Nat):Int)=((o.length:Nat):Int):=by omega
  rw[if_pos h1];simp[e]
theorem P125_eq (o:List Dim):P125 o=some (ja o).2.2:=by simp[P125,S125,P94_eq]
theorem P130_eq {o:List Dim} {p:List Int} (hf:Fit o p) (h:p.length<=9223372036854775807) (hd:∀ d∈o,d.members.length<=1000):P130 o p=some (zcx o p):=by
 simp only[P130,S130];rw[zao (fun x:Int×Dim => !wz x.2.members x.1.toNat) (p.zip o) false true (fun i y hy => ?_) (by rw[List.length_zip,← hf.len,Nat.min_self];simp[zib])]
 ·rw[zcx,all_any];cases (p.zip o).any fun x => !wz x.2.members x.1.toNat<;>rfl
 ·obtain ⟨e1,e2⟩:=List.getElem?_zip_eq_some.1 hy;have hi:=(List.getElem?_eq_some_iff.1 e1).1;have e:((i:Nat):Int) < ((p.length:Nat):Int):=by omega
  have hm:=hf.mem i _ _ e1 e2;have hl:=hd _ (List.mem_of_getElem? e2);obtain ⟨k,hk⟩:=Int.eq_ofNat_of_zero_le hm.1;rw[hk] at hm e1;simp only[zib,e,decide_true,zo,za,e1,e2,zk,hk,P102_eq hl (by omega:k < y.2.members.length),Int.toNat_natCast];rw[qH (by omega) (by omega)];cases wz y.2.members k<;>rfl
theorem less_loop (a b:List Int) (h:a.length<=9223372036854775807):∀ (n i:Nat),a.length - i=n->i<=a.length->i<=b.length->jn (lpO (zb3 a b) (i:Int)) (fun _=>some (decide (((List.length a:Nat):Int) < ((List.length b:Nat):Int))))=some (decide (qX (a.drop i) (b.drop i) < 0)):=by
 intro n
 induction n with
 | zero =>
  intro i hi hl hb;obtain rfl:i=a.length:=by omega
  rw[zV (y:=(a.length:Int)) (by simp[zb3])];rw[List.drop_length];simp only[qb];by_cases hlt:a.length < b.length
  ·have e:((a.length:Nat):Int) < ((b.length:Nat):Int):=by omega
   rw[List.drop_eq_getElem_cons hlt];simp[e,qX]
  ·have e:¬ ((a.length:Nat):Int) < ((b.length:Nat):Int):=by omega
   rw[List.drop_eq_nil_of_le (by omega)];simp[e,qX]
 | succ n ih =>
  intro i hi hl hb;have hia:i < a.length:=by omega
  have e:((i:Nat):Int) < ((a.length:Nat):Int):=by omega
  rw[List.drop_eq_getElem_cons hia];by_cases hib:i < b.length
  ·have e2:((i:Nat):Int) < ((b.length:Nat):Int):=by omega
   rw[List.drop_eq_getElem_cons hib];have hB:zb3 a b (i:Int)=some (if a[i]=b[i] then .nx ((i:Int)+1) else .fin (decide (a[i] < b[i]))):=by
    simp only[zb3,e,e2,decide_true,zo,zu,qb,za,List.getElem?_eq_getElem hia,List.getElem?_eq_getElem hib,zk];rw[qH (by omega) (by omega)];by_cases c1:a[i]=b[i]<;>simp[c1]
   by_cases c0:a[i]=b[i]
   ·rw[if_pos c0] at hB;have hc:qX (a[i] :: a.drop (i+1)) (b[i] :: b.drop (i+1))=qX (a.drop (i+1)) (b.drop (i+1)):=by
     simp only[qX];rw[if_neg (by omega),if_neg (by omega)]
    rw[zcl hB,hc];exact ih (i+1) (by omega) (by omega) (by omega)
   ·rw[if_neg c0] at hB;rw[wP hB];by_cases c1:a[i] < b[i]
    ·have hc:qX (a[i] :: a.drop (i+1)) (b[i] :: b.drop (i+1)) = -1:=by simp only[qX];rw[if_pos c1]
     rw[hc];simp[c1]
    ·have c2:b[i] < a[i]:=by omega
     have hc:qX (a[i] :: a.drop (i+1)) (b[i] :: b.drop (i+1))=1:=by simp only[qX];rw[if_neg c1,if_pos c2]
     rw[hc];simp[c1]
  ·have e2:¬ ((i:Nat):Int) < ((b.length:Nat):Int):=by omega
   have e3:¬ ((a.length:Nat):Int) < ((b.length:Nat):Int):=by omega
   rw[List.drop_eq_nil_of_le (by omega:b.length<=i),zV (y:=(i:Int)) (by simp[zb3,e,e2])];simp[e3,qX]
theorem zf4 (a b:List Int) (h:a.length<=9223372036854775807):P151 a b=some (decide (qX a b < 0)):=by
 simp only[P151,S151,qp];exact less_loop a b h a.length 0 (by omega) (Nat.zero_le _) (Nat.zero_le _)
theorem P122_eq (o:List Dim) (l:List Entry) (hl:Lst Entry.gd l):P122 o l=some (zeg o l):=by
 simp only[P122,S122,P125_eq,zk];unfold zeg;by_cases h0:(ja o).2.2=0
 case neg=>simp[h0]
 have ok:=zcj.1 h0;have hdm:∀ d∈o,d.members.length<=1000:=fun d hd=>by have:=(ok.dims d hd).len;omega
 have hlen:=hl.1;rw[if_neg (by simpa using h0)];simp only[h0,not_true,decide_false,zg];have:=q9 (B:=zfZ P123 P130 P151 o l) l.length (fun i=>match l[i]? with
  | some e=>if yU o l i e=0 then none else some (yU o l i e)
  | none=>none) (fun i hi=>by
   have e:((i:Nat):Int) < ((l.length:Nat):Int):=by omega
   have hm:=List.getElem?_eq_getElem hi;have hg:=hl.2 _ (List.getElem_mem hi);generalize l[i]=x at hm hg;have hat:x.at_.length<=9223372036854775807:=hg.1.1;simp only[zfZ,e,decide_true,zo,za,hm,zk,P123_eq o _ hat];rw[qH (n:=(i:Int)+1) (by omega) (by omega)];by_cases c1:ji o x.at_=0
   case neg =>
    have hE:yU o l i x=ji o x.at_:=by unfold yU;rw[if_pos c1]
    simp[hE,c1]
   have hf:=zaM.1 c1;have c1':¬ ¬ ji o x.at_=0:=fun h=>h c1;simp only[c1,not_true,decide_false,zg,P130_eq hf hat hdm,zk];cases c2:zcx o x.at_ with
   | false =>
    have hE:yU o l i x=6:=by unfold yU;rw[if_neg c1',if_pos c2]
    simp[hE]
   | true =>
    have c2':¬ zcx o x.at_=false:=by rw[c2];simp
    have hv:∀ k:Bool->Option (LR Int Int),jn (σ:=Bool) (α:=LR Int Int) (br (decide (x.n < -1000000)) (zt (some true)) (zt (some (decide ((1000000:Int) < x.n))))) k=k (!zbr x.n):=by
     intro k;unfold zbr;by_cases d1:x.n < -1000000
     ·have:¬ -1000000<=x.n:=by omega
      simp[d1,this]
     ·have : -1000000<=x.n:=by omega
      by_cases d2:1000000 < x.n
      ·have d3:¬ x.n<=1000000:=by omega
       simp[d1,this,d2,d3]
      ·have d3:x.n<=1000000:=by omega
       simp[d1,this,d2,d3]
    simp only[Bool.not_true,zg,hv];cases c3:zbr x.n with
    | false =>
     have hE:yU o l i x=1:=by unfold yU;rw[if_neg c1',if_neg c2',if_pos c3]
     simp[hE]
    | true =>
     have c3':¬ zbr x.n=false:=by rw[c3];simp
     simp only[Bool.not_true,zg];cases i with
     | zero =>
      have hE:yU o l 0 x=0:=by unfold yU;rw[if_neg c1',if_neg c2',if_neg c3']
      simp[hE]
     | succ j =>
      have hj:j < l.length:=by omega
      have ej:=List.getElem?_eq_getElem hj;have hgj:=hl.2 _ (List.getElem_mem hj);have hE:yU o l (j+1) x=if 0<=qX l[j].at_ x.at_ then 7 else 0:=by unfold yU;rw[if_neg c1',if_neg c2',if_neg c3'];simp only[ej]
      have e0:¬ ((j+1:Nat):Int)=0:=by omega
      have e1:((j+1:Nat):Int) - 1=(j:Int):=by omega
      simp only[e0,decide_false,zg,e1];rw[qH (n:=(j:Int)) (by omega) (by omega)];simp only[za,ej,zk,zf4 _ _ hgj.1.1,hE];by_cases c4:0<=qX l[j].at_ x.at_
      ·have c5:¬ qX l[j].at_ x.at_ < 0:=by omega
       simp[c4,c5]
      ·have c5:qX l[j].at_ x.at_ < 0:=by omega
       simp[c4,c5]) (by simp[zfZ])
 unfold lp;rw[this];cases ((List.range l.length).findSome? fun i=>match l[i]? with | some e=>if yU o l i e=0 then none else some (yU o l i e) | none=>none) with
 | none=>simp
 | some r=>rfl
end
section
theorem P142_eq (o:List Dim) (n:Nat) (hl:o.length<=1000) (hn:n<=1000000000) (hp:∀ d∈o,0 < d.members.length∧d.members.length<=1000000):P142 o (n:Int)=some (jt o n).1:=by
 have hsame:S142_L1 o=zeK o:=rfl;have:=P69_eq o n hl hn hp;simp only[P69,S69,Int.toNat_natCast,List.length_replicate] at this;simp only[P142,S142,Int.toNat_natCast,hsame];exact this
end
end Ab
