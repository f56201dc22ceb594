import Derived.Test.YtchidgkpkhloeaaGreatDoorHN
import Derived.Test.YtchidgkpkhloeaaGreatDoorC5
set_option linter.unusedVariables false
set_option linter.unusedSimpArgs false
namespace Ab
open Go
section
theorem P155_eq {l:List Entry} {p:List Int} (hl:Lst Entry.gd l) (hp:p.length<=9223372036854775807):P155 l p=some ((yh l p:Int),hasL l p):=by
 have hlen:=hl.1;have hat:∀ (i:Nat) (e:Entry),l[i]? = some e->i < yh l p->cmpL e.at_ p < 0:=by
  have:∀ (l:List Entry) (i:Nat) (e:Entry),l[i]? = some e->i < yh l p->cmpL e.at_ p < 0:=by
   intro l
   induction l with
   | nil=>intro i e h;cases h
   | cons a l ih =>
    intro i e h hi;simp only[yh] at hi;split at hi
    ·rename_i c;cases i with
     | zero=>cases h;exact c
     | succ i=>exact ih i e (by simpa using h) (by omega)
    ·omega
  exact this l
 have hend:∀ e,l[yh l p]? = some e->¬ cmpL e.at_ p < 0:=by
  have:∀ (l:List Entry) (e:Entry),l[yh l p]? = some e->¬ cmpL e.at_ p < 0:=by
   intro l
   induction l with
   | nil=>intro e h;cases h
   | cons a l ih =>
    intro e h;simp only[yh] at h;split at h
    ·rename_i c;exact ih e (by simpa using h)
    ·rename_i c;cases h;exact c
  exact this l
 have hle:=loc_le l p;have hs:=zJ (B:=wd P151 l p) (fun i=>(i:Int)) (yh l p) (fun i hi=>by
  have hi':i < l.length:=by omega
  have e:((i:Nat):Int) < ((l.length:Nat):Int):=by omega
  have ee:=List.getElem?_eq_getElem hi';have hg:=hl.2 _ (List.getElem_mem hi');have c:=hat i _ ee hi;simp only[wd,e,decide_true,zm,zb,ee,zi,zh9 _ _ hg.1.1,c,zx,qp,yH];rw[qL (by omega) (by omega)]
  rfl)
 have hs:lpO (wd P151 l p) 0=lpO (wd P151 l p) ((yh l p:Nat):Int):=hs;by_cases c:yh l p < l.length
 ·have e:((yh l p:Nat):Int) < ((l.length:Nat):Int):=by omega
  have e2:¬ ((yh l p:Nat):Int)=((l.length:Nat):Int):=by omega
  have ee:=List.getElem?_eq_getElem c;have hg:=hl.2 _ (List.getElem_mem c);have hc:=hend _ ee;have hdn:lpO (wd P151 l p) ((yh l p:Nat):Int)=some (.inl ((yh l p:Nat):Int)):=zP (by simp[wd,e,zb,ee,zh9 _ _ hg.1.1,hc]);simp only[P155,S155,qy,hs,hdn,qp,e2,decide_false,zd,zb,ee,zi,zh9 _ _ hp];rw[zbk,ee];simp only;by_cases h0:cmpL l[yh l p].at_ p=0
  ·have:¬ cmpL p l[yh l p].at_ < 0:=by rw[zcZ l[yh l p].at_ p];omega
   simp[h0,this]
  ·have:=cmpL_neg hc h0;simp[h0,this]
 ·have e:¬ ((yh l p:Nat):Int) < ((l.length:Nat):Int):=by omega
  have e2:((yh l p:Nat):Int)=((l.length:Nat):Int):=by omega
  have ee:l[yh l p]? = none:=List.getElem?_eq_none (by omega);have hdn:lpO (wd P151 l p) ((yh l p:Nat):Int)=some (.inl ((yh l p:Nat):Int)):=zP (by simp[wd,e]);simp only[P155,S155,qy,hs,hdn,qp];rw[zbk,ee];simp[e2]
theorem P134_eq {l:List Entry} {p:List Int} (hl:Lst Entry.gd l) (hp:p.length<=9223372036854775807):P134 l p=some (zgK (getL l p)):=by
 simp only[P134,S134,P155_eq hl hp,zi];rw[zhz];cases h:hasL l p with
 | false=>simp[zgK]
 | true =>
  rw[zbk] at h;split at h
  ·rename_i e he;simp[zb,he,zgK]
  ·cases h
end
section
theorem P140_eq {o:List Dim} {p:List Int} (ok:OutOk o) (hf:Fit o p):P140 o p=some ((we o p:Nat):Int):=by have hlen:=ok.len;have hpl:=hf.len;have hsame:zh5 o p=zdl o p:=(by funext x;simp only[zh5,zdl];cases zj o x.2<;>cases zj p x.2<;>rfl);have h:=zjd hf.len (by omega:p.length<=9223372036854775807);rw[zeJ ok hf] at h;rw[← h];simp only[P140,S140,P49,S49,hsame]
end
end Ab
