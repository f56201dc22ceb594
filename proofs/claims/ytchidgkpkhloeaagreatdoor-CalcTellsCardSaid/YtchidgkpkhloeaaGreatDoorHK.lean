import Derived.Test.YtchidgkpkhloeaaGreatDoorHN
import Derived.Test.YtchidgkpkhloeaaGreatDoorC5
set_option linter.all false
namespace Ab
open Go
section
def P155_eq {l:List Entry} {p:List Int} (hl:Lst Entry.gd l) (hp:p.length<=9223372036854775807):P155 l p=some ((yF l p:Int),cB l p):=by
 have hlen:=hl.1;have aq:∀ (i:Nat) (e:Entry),l[i]? = some e->i < yF l p->cmpL e.at_ p < 0:=by
  have:∀ (l:List Entry) (i:Nat) (e:Entry),l[i]? = some e->i < yF l p->cmpL e.at_ p < 0:=by
   intro l
   induction l with
   | nil=>intro i e h;cases h
   | cons a l ih =>
    intro i e h hi;simp only[yF] at hi;split at hi
    ·rename_i c;cases i with
     | zero=>cases h;exact c
     | succ i=>exact ih i e (by simpa using h) (by omega)
    ·omega
  exact this l
 have dK:∀ e,l[yF l p]? = some e->¬ cmpL e.at_ p < 0:=by
  have:∀ (l:List Entry) (e:Entry),l[yF l p]? = some e->¬ cmpL e.at_ p < 0:=by
   intro l
   induction l with
   | nil=>intro e h;cases h
   | cons a l ih =>
    intro e h;simp only[yF] at h;split at h
    ·rename_i c;exact ih e (by simpa using h)
    ·rename_i c;cases h;exact c
  exact this l
 have hle:=loc_le l p;have hs:=zH (B:=wN P151 l p) (fun i=>(i:Int)) (yF l p) (fun i hi=>by
  have aA:i < l.length:=by omega
  have e:((i:Nat):Int) < ((l.length:Nat):Int):=by omega
  have ee:=Aa aA;have hg:=hl.2 _ (Ay aA);have c:=aq i _ ee hi;simp only[wN,e,decide_true,zo,za,ee,zi,zgJ _ _ hg.1.1,c,zq,zX,qQ];rw[qp (by omega) (by omega)]
  rfl)
 have hs:lpO (wN P151 l p) 0=lpO (wN P151 l p) ((yF l p:Nat):Int):=hs;by_cases c:yF l p < l.length
 ·have e:((yF l p:Nat):Int) < ((l.length:Nat):Int):=by omega
  have e2:¬ ((yF l p:Nat):Int)=((l.length:Nat):Int):=by omega
  have ee:=Aa c;have hg:=hl.2 _ (Ay c);have hc:=dK _ ee;have nO:lpO (wN P151 l p) ((yF l p:Nat):Int)=some (.inl ((yF l p:Nat):Int)):=zI (by simp[wN,e,za,ee,zgJ _ _ hg.1.1,hc]);simp only[P155,S155,zV,hs,nO,zX,e2,decide_false,zd,za,ee,zi,zgJ _ _ hp];rw[zcf,ee];simp only;by_cases h0:cmpL l[yF l p].at_ p=0
  ·have:¬ cmpL p l[yF l p].at_ < 0:=by rw[zdQ l[yF l p].at_ p];omega
   simp[h0,this]
  ·have:=cmpL_neg hc h0;simp[h0,this]
 ·have e:¬ ((yF l p:Nat):Int) < ((l.length:Nat):Int):=by omega
  have e2:((yF l p:Nat):Int)=((l.length:Nat):Int):=by omega
  have ee:l[yF l p]? = none:=AH (by omega);have nO:lpO (wN P151 l p) ((yF l p:Nat):Int)=some (.inl ((yF l p:Nat):Int)):=zI (by simp[wN,e]);simp only[P155,S155,zV,hs,nO,zX];rw[zcf,ee];simp[e2]
def P134_eq {l:List Entry} {p:List Int} (hl:Lst Entry.gd l) (hp:p.length<=9223372036854775807):P134 l p=some (zhK (getL l p)):=by
 simp only[P134,S134,P155_eq hl hp,zi];rw[zis];cases h:cB l p with
 | false=>simp[zhK]
 | true =>
  rw[zcf] at h;split at h
  ·rename_i e he;simp[za,he,zhK]
  ·cases h
end
section
def zjb {o:List Dim} {p:List Int} (ok:OutOk o) (hf:Fit o p):P140 o p=some ((wn o p:Nat):Int):=by have hlen:=ok.len;have gm:=hf.len;have bN:zi0 o p=zec o p:=(by funext x;simp only[zi0,zec];cases zl o x.2<;>cases zl p x.2<;>rfl);have h:=P49_eq hf.len (by omega:p.length<=9223372036854775807);rw[zii ok hf] at h;rw[← h];simp only[P140,S140,P49,S49,bN]
end
end Ab
