import Derived.Test.YtchidgkpkhloeaaGreatDoorHN
import Derived.Test.YtchidgkpkhloeaaGreatDoorC5
set_option linter.unusedVariables false
set_option linter.unusedSimpArgs false
namespace Ab
open Go
section
theorem P155_eq {l:List Entry} {p:List Int} (hl:Lst Entry.gd l) (hp:p.length<=9223372036854775807):P155 l p=some ((yq l p:Int),hasL l p):=by
 have hlen:=hl.1;have hat:∀ (i:Nat) (e:Entry),l[i]? = some e->i < yq l p->qX e.at_ p < 0:=by
  have:∀ (l:List Entry) (i:Nat) (e:Entry),l[i]? = some e->i < yq l p->qX e.at_ p < 0:=by
   intro l
   induction l with
   | nil=>intro i e h;cases h
   | cons a l ih =>
    intro i e h hi;simp only[yq] at hi;split at hi
    ·rename_i c;cases i with
     | zero=>cases h;exact c
     | succ i=>exact ih i e (by simpa using h) (by omega)
    ·omega
  exact this l
 have hend:∀ e,l[yq l p]? = some e->¬ qX e.at_ p < 0:=by
  have:∀ (l:List Entry) (e:Entry),l[yq l p]? = some e->¬ qX e.at_ p < 0:=by
   intro l
   induction l with
   | nil=>intro e h;cases h
   | cons a l ih =>
    intro e h;simp only[yq] at h;split at h
    ·rename_i c;exact ih e (by simpa using h)
    ·rename_i c;cases h;exact c
  exact this l
 have hle:=loc_le l p;have hs:=zO (B:=wt P151 l p) (fun i=>(i:Int)) (yq l p) (fun i hi=>by
  have hi':i < l.length:=by omega
  have e:((i:Nat):Int) < ((l.length:Nat):Int):=by omega
  have ee:=List.getElem?_eq_getElem hi';have hg:=hl.2 _ (List.getElem_mem hi');have c:=hat i _ ee hi;simp only[wt,e,decide_true,zo,za,ee,zk,zf4 _ _ hg.1.1,c,zu,qb,jw];rw[qH (by omega) (by omega)]
  rfl)
 have hs:lpO (wt P151 l p) 0=lpO (wt P151 l p) ((yq l p:Nat):Int):=hs;by_cases c:yq l p < l.length
 ·have e:((yq l p:Nat):Int) < ((l.length:Nat):Int):=by omega
  have e2:¬ ((yq l p:Nat):Int)=((l.length:Nat):Int):=by omega
  have ee:=List.getElem?_eq_getElem c;have hg:=hl.2 _ (List.getElem_mem c);have hc:=hend _ ee;have hdn:lpO (wt P151 l p) ((yq l p:Nat):Int)=some (.inl ((yq l p:Nat):Int)):=zV (by simp[wt,e,za,ee,zf4 _ _ hg.1.1,hc]);simp only[P155,S155,qp,hs,hdn,qb,e2,decide_false,zg,za,ee,zk,zf4 _ _ hp];rw[zbO,ee];simp only;by_cases h0:qX l[yq l p].at_ p=0
  ·have:¬ qX p l[yq l p].at_ < 0:=by rw[zdu l[yq l p].at_ p];omega
   simp[h0,this]
  ·have:=cmpL_neg hc h0;simp[h0,this]
 ·have e:¬ ((yq l p:Nat):Int) < ((l.length:Nat):Int):=by omega
  have e2:((yq l p:Nat):Int)=((l.length:Nat):Int):=by omega
  have ee:l[yq l p]? = none:=List.getElem?_eq_none (by omega);have hdn:lpO (wt P151 l p) ((yq l p:Nat):Int)=some (.inl ((yq l p:Nat):Int)):=zV (by simp[wt,e]);simp only[P155,S155,qp,hs,hdn,qb];rw[zbO,ee];simp[e2]
theorem P134_eq {l:List Entry} {p:List Int} (hl:Lst Entry.gd l) (hp:p.length<=9223372036854775807):P134 l p=some (zg0 (getL l p)):=by
 simp only[P134,S134,P155_eq hl hp,zk];rw[zhF];cases h:hasL l p with
 | false=>simp[zg0]
 | true =>
  rw[zbO] at h;split at h
  ·rename_i e he;simp[za,he,zg0]
  ·cases h
end
section
theorem zf6 {o:List Dim} {p:List Int} (ok:OutOk o) (hf:Fit o p):P140 o p=some ((wC o p:Nat):Int):=by
 have hlen:=ok.len;have hpl:=hf.len;have hsame:zia o p=zdP o p:=by
  funext x;simp only[zia,zdP];cases zn o x.2<;>cases zn p x.2<;>rfl
 have h:=P49_eq hf.len (by omega:p.length<=9223372036854775807);rw[numW_eq ok hf] at h;rw[← h];simp only[P140,S140,P49,S49,hsame]
end
end Ab
