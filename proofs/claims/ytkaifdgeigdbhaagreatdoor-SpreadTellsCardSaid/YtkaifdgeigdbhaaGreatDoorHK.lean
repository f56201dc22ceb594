import Derived.Test.YtkaifdgeigdbhaaGreatDoorHN
import Derived.Test.YtkaifdgeigdbhaaGreatDoorC5
set_option linter.all false
namespace Ab
open Go
section
def P155_eq {l:List Entry} {p:List Int} (hl:Lst Entry.gd l) (hp:p.length<=9223372036854775807):P155 l p=some ((yX l p:Int),hasL l p):=by
 have hlen:=hl.1;have aw:∀ (i:Nat) (e:Entry),l[i]? = some e->i < yX l p->cmpL e.at_ p < 0:=by
  have:∀ (l:List Entry) (i:Nat) (e:Entry),l[i]? = some e->i < yX l p->cmpL e.at_ p < 0:=by
   intro l
   induction l with
   | nil=>intro i e h;cases h
   | cons a l ih =>
    intro i e h hi;simp only[yX] at hi;split at hi
    ·rename_i c;cases i with
     | zero=>cases h;exact c
     | succ i=>exact ih i e (by simpa using h) (by omega)
    ·omega
  exact this l
 have dZ:∀ e,l[yX l p]? = some e->¬ cmpL e.at_ p < 0:=by
  have:∀ (l:List Entry) (e:Entry),l[yX l p]? = some e->¬ cmpL e.at_ p < 0:=by
   intro l
   induction l with
   | nil=>intro e h;cases h
   | cons a l ih =>
    intro e h;simp only[yX] at h;split at h
    ·rename_i c;exact ih e (by simpa using h)
    ·rename_i c;cases h;exact c
  exact this l
 have hle:=loc_le l p;have hs:=zU (B:=w9 P151 l p) (fun i=>(i:Int)) (yX l p) (fun i hi=>by
  have aO:i < l.length:=by omega
  have e:((i:Nat):Int) < ((l.length:Nat):Int):=by omega
  have ee:=Aa aO;have hg:=hl.2 _ (Ay aO);have c:=aw i _ ee hi;simp only[w9,e,decide_true,zg,zb,ee,zk,lM _ _ hg.1.1,c,zt,zN,qR];rw[zJ (by omega) (by omega)]
  rfl)
 have hs:lpO (w9 P151 l p) 0=lpO (w9 P151 l p) ((yX l p:Nat):Int):=hs;by_cases c:yX l p < l.length
 ·have e:((yX l p:Nat):Int) < ((l.length:Nat):Int):=by omega
  have e2:¬ ((yX l p:Nat):Int)=((l.length:Nat):Int):=by omega
  have ee:=Aa c;have hg:=hl.2 _ (Ay c);have hc:=dZ _ ee;have n9:lpO (w9 P151 l p) ((yX l p:Nat):Int)=some (.inl ((yX l p:Nat):Int)):=zD (by simp[w9,e,zb,ee,lM _ _ hg.1.1,hc]);simp only[P155,S155,zO,hs,n9,zN,e2,decide_false,za,zb,ee,zk,lM _ _ hp];rw[zcm,ee];simp only;by_cases h0:cmpL l[yX l p].at_ p=0
  ·have:¬ cmpL p l[yX l p].at_ < 0:=by rw[zeo l[yX l p].at_ p];omega
   simp[h0,this]
  ·have:=cmpL_neg hc h0;simp[h0,this]
 ·have e:¬ ((yX l p:Nat):Int) < ((l.length:Nat):Int):=by omega
  have e2:((yX l p:Nat):Int)=((l.length:Nat):Int):=by omega
  have ee:l[yX l p]? = none:=AR (by omega);have n9:lpO (w9 P151 l p) ((yX l p:Nat):Int)=some (.inl ((yX l p:Nat):Int)):=zD (by simp[w9,e]);simp only[P155,S155,zO,hs,n9,zN];rw[zcm,ee];simp[e2]
def P134_eq {l:List Entry} {p:List Int} (hl:Lst Entry.gd l) (hp:p.length<=9223372036854775807):P134 l p=some (gU (getL l p)):=by
 simp only[P134,S134,P155_eq hl hp,zk];rw[ziR];cases h:hasL l p with
 | false=>simp[gU]
 | true =>
  rw[zcm] at h;split at h
  ·rename_i e he;simp[zb,he,gU]
  ·cases h
end
section
end
end Ab
