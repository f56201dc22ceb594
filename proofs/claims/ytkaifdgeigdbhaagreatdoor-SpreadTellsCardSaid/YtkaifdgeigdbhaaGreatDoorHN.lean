import Derived.Test.YtkaifdgeigdbhaaGreatDoorH1
import Derived.Test.YtkaifdgeigdbhaaGreatDoorH2
set_option linter.all false
namespace Ab
open Go
section
def zeo:∀ a b:List Int,cmpL b a = - cmpL a b
 | [],[]=>rfl
 | [],_ :: _=>rfl
 | _ :: _,[]=>rfl
 | x :: a,y :: b=>by
  simp only[cmpL];by_cases h1:x < y
  ·have h2:¬ y < x:=by omega
   simp[h1,h2]
  ·by_cases h2:y < x
   ·simp[h1,h2]
   ·simp[h1,h2,zeo a b]
def zct:∀ {a b c:List Int},cmpL a b < 0->cmpL b c < 0->cmpL a c < 0
 | [],[],_,h,_=>by simp[cmpL] at h
 | [],_ :: _,[],_,k=>by simp[cmpL] at k
 | [],_ :: _,_ :: _,_,_=>by simp[cmpL]
 | _ :: _,[],_,h,_=>by simp[cmpL] at h
 | _ :: _,_ :: _,[],_,k=>by simp[cmpL] at k
 | x :: a,y :: b,z :: c,h,k=>by
  simp only[cmpL] at h k ⊢;by_cases h1:x < y
  ·by_cases k1:y < z
   ·have:x < z:=by omega
    simp[this]
   ·by_cases k2:z < y
    ·simp[k1,k2] at k
    ·have:x < z:=by omega
     simp[this]
  ·by_cases h2:y < x
   ·simp[h1,h2] at h
   ·simp only[h1,h2,if_false] at h;have pL:x=y:=by omega
    subst pL;by_cases k1:x < z
    ·simp[k1]
    ·by_cases k2:z < x
     ·simp[k1,k2] at k
     ·simp only[k1,k2,if_false] at k ⊢;exact zct h k
def cmpL_neg {a b:List Int} (h:¬ cmpL a b < 0) (h0:¬ cmpL a b=0):cmpL b a < 0:=by rw[zeo a b];omega
def Ris (l:List Entry):Prop:=l.Pairwise fun a b=>cmpL a.at_ b.at_ < 0
def ris_of:∀ {l:List Entry},(∀ (i:Nat) (a b:Entry),l[i]? = some a->l[i+1]? = some b->cmpL a.at_ b.at_ < 0)->Ris l
 | [],_=>.nil
 | [a],_=>.cons (by simp) .nil
 | a :: b :: l,h=>by
  have ih:Ris (b :: l):=ris_of fun i x y hx hy=>h (i+1) x y hx hy;have oC:=h 0 a b rfl rfl;refine .cons (fun x hx => ?_) ih;rcases As.1 hx with rfl | hx
  ·exact oC
  ·exact zct oC (CH ih hx)
def yX:List Entry->List Int->Nat
 | [],_=>0
 | e :: l,p=>if cmpL e.at_ p < 0 then yX l p+1 else 0
def hasL:List Entry->List Int->Bool
 | [],_=>false
 | e :: l,p=>if cmpL e.at_ p < 0 then hasL l p else decide (cmpL e.at_ p=0)
def getL:List Entry->List Int->Option Int
 | [],_=>none
 | e :: l,p=>if cmpL e.at_ p < 0 then getL l p else if cmpL e.at_ p=0 then some e.n else none
def loc_le:∀ (l:List Entry) (p:List Int),yX l p<=l.length
 | [],_=>AG _
 | e :: l,p=>by
  have:=loc_le l p;simp only[yX,Ax]
  split<;>omega
def loc_lt:∀ {l:List Entry} (p:List Int),Ris l->∀ (i:Nat) (e:Entry),l[i]? = some e->(cmpL e.at_ p < 0↔i < yX l p)
 | [],p,_,i,e,h=>by cases h
 | a :: l,p,hr,i,e,h=>by
  have cK:=Bz.1 hr;simp only[yX];cases i with
  | zero =>cases h;by_cases c:cmpL a.at_ p < 0<;>simp[c]
  | succ i =>
   have ih:=loc_lt p cK.2 i e (by simpa using h);by_cases c:cmpL a.at_ p < 0
   ·simp[c,ih]
   ·have hae:=cK.1 e (Ad (by simpa using h));have:¬ cmpL e.at_ p < 0:=fun h2=>c (zct hae h2);simp[c,this]
def zcm:∀ (l:List Entry) (p:List Int),hasL l p=(match l[yX l p]? with | some e=>decide (cmpL e.at_ p=0) | none=>false)
 | [],p=>rfl
 | e :: l,p=>by
  simp only[hasL,yX];by_cases c:cmpL e.at_ p < 0
  ·simp only[c,if_true,AY];exact zcm l p
  ·simp[c]
def ziR:∀ (l:List Entry) (p:List Int),getL l p=if hasL l p=true then (l[yX l p]?).map (·.n) else none
 | [],p=>rfl
 | e :: l,p=>by
  simp only[getL,hasL,yX];by_cases c:cmpL e.at_ p < 0
  ·simp only[c,if_true,AY];exact ziR l p
  ·by_cases c0:cmpL e.at_ p=0<;>simp[c,c0]
def half_eq {x:Nat} (h:x < 18446744073709551616):wi (IntKind.wrap .u64 (wi ((x:Nat):Int)) / 2)=((x / 2:Nat):Int):=by have e:IntKind.wrap .u64 (wi ((x:Nat):Int))=(x:Int):=(by simp[wi,IntKind.wrap,IntKind.bits,IntKind.signed];omega);rw[e,zJ (by omega) (by omega)];omega
def P80_eq {l:List Entry} {p:List Int} (hr:Ris l) (hl:Lst Entry.gd l) (hp:p.length<=9223372036854775807):zkv l ⟨p,0⟩=some ((yX l p:Int),hasL l p):=by
 have hlen:=hl.1;have loop:∀ (n i j:Nat),j - i=n->i<=yX l p->yX l p<=j->j<=l.length->lpO (yC P61 l ⟨p,0⟩) ((i:Int),(j:Int))=some (.inl ((yX l p:Int),(yX l p:Int))):=by
  intro n
  induction n using Nat.strongRecOn with
  | _ n ih =>
   intro i j hn h1 h2 h3;by_cases nS:i < j
   ·have e1:(i:Int) < (j:Int):=by omega
    have hm:(i+j) / 2 < l.length:=by omega
    have ee:=Aa hm;have hg:=hl.2 _ (Ay hm);have hc:=loc_lt p hr _ _ ee;have hh:wi (IntKind.wrap .u64 (wi ((i:Int)+(j:Int))) / 2)=(((i+j) / 2:Nat):Int):=by
     have:=half_eq (x:=i+j) (by omega)
     rwa [Cy] at this
    by_cases c:cmpL l[(i+j) / 2].at_ p < 0
    ·have hB:yC P61 l ⟨p,0⟩ ((i:Int),(j:Int))=some (.nx ((((i+j) / 2+1:Nat):Int),(j:Int))):=(by simp only[yC,e1,decide_true,zg,hh,zb,ee,zk,zkw _ _ hg.1.1,c,zt,zN,qR];rw[zJ (by omega) (by omega)];rfl);rw[z6 hB];have:=hc.1 c;exact ih (j - ((i+j) / 2+1)) (by omega) _ _ rfl (by omega) h2 h3
    ·have hB:yC P61 l ⟨p,0⟩ ((i:Int),(j:Int))=some (.nx ((i:Int),(((i+j) / 2:Nat):Int))):=(by simp only[yC,e1,decide_true,zg,hh,zb,ee,zk,zkw _ _ hg.1.1,c,decide_false,za,zt,zN,qR]);rw[z6 hB];have:¬ (i+j) / 2 < yX l p:=fun h=>c (hc.2 h);exact ih ((i+j) / 2 - i) (by omega) _ _ rfl h1 (by omega) (by omega)
   ·have hi:i=yX l p:=by omega
    have hj:j=yX l p:=by omega
    rw[zD (y:=((i:Int),(j:Int)))]
    ·rw[hi,hj]
    ·have e1:¬ (i:Int) < (j:Int):=by omega
     simp[yC,e1]
 have hL:=loop l.length 0 l.length (by omega) (BG _) (loc_le l p) (AG _);simp only[zkv,S80_61,zO];rw[show ((0:Int),((l.length:Nat):Int))=(((0:Nat):Int),((l.length:Nat):Int)) from rfl,hL];simp only[zN];rw[zcm];by_cases c:yX l p < l.length
 ·have e1:((yX l p:Nat):Int) < ((l.length:Nat):Int):=by omega
  have ee:=Aa c;have hg:=hl.2 _ (Ay c);simp only[e1,decide_true,zg,zb,ee,zk,zkw _ _ hg.1.1,zt,zN]
 ·have e1:¬ ((yX l p:Nat):Int) < ((l.length:Nat):Int):=by omega
  have ee:l[yX l p]? = none:=AR (by omega);simp[e1,ee]
def P73_eq {l:List Entry} {p:List Int} (hr:Ris l) (hl:Lst Entry.gd l) (hp:p.length<=9223372036854775807):P73 l p=some ((yX l p:Int),hasL l p):=by simp[P73,S73,P80_eq hr hl hp]
def gU:Option Int->Cell
 | some n=>⟨1,n⟩
 | none=>⟨0,0⟩
def P57_eq {l:List Entry} {p:List Int} (hr:Ris l) (hl:Lst Entry.gd l) (hp:p.length<=9223372036854775807):P57 l p=some (gU (getL l p)):=by
 simp only[P57,S57,P73_eq hr hl hp,zk];rw[ziR];cases h:hasL l p with
 | false=>simp[gU]
 | true =>
  rw[zcm] at h;split at h
  ·rename_i e he;simp[zb,he,gU]
  ·cases h
end
section
section
variable (o:List Dim) (dim:Nat) (ms:List Member)
end
section
variable {o:List Dim} {dim:Nat} {d:Dim}
variable (ok:OutOk o) (hd:o[dim]? = some d)
include ok hd
end
section
variable {o:List Dim} {dim:Nat} {ms:List Member}
end
end
end Ab
