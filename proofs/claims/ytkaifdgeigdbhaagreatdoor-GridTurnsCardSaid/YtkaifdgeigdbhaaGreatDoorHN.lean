import Derived.Test.YtkaifdgeigdbhaaGreatDoorH1
import Derived.Test.YtkaifdgeigdbhaaGreatDoorH2
open List (getElem?_eq_getElem)
set_option linter.unusedVariables false
set_option linter.unusedSimpArgs false
namespace Ab
open Go
section
theorem zbd:∀ {a b c:List Int},cmpL a b < 0->cmpL b c < 0->cmpL a c < 0
 | [],[],_,h,_=>by simp[cmpL] at h
 | [],_ :: _,[],_,k=>by simp[cmpL] at k
 | [],_ :: _,_ :: _,_,_=>by simp[cmpL]
 | _ :: _,[],_,h,_=>by simp[cmpL] at h
 | _ :: _,_ :: _,[],_,k=>by simp[cmpL] at k
 | x :: a,y :: b,z :: c,h,k=>by
  simp only[cmpL] at h k ⊢;by_cases h1:x < y
  ·by_cases k1:y < z
   ·have:x < z:=by omega
    simp[this]
   ·by_cases k2:z < y
    ·simp[k1,k2] at k
    ·have:x < z:=by omega
     simp[this]
  ·by_cases h2:y < x
   ·simp[h1,h2] at h
   ·simp only[h1,h2,if_false] at h;have hxy:x=y:=by omega
    subst hxy;by_cases k1:x < z
    ·simp[k1]
    ·by_cases k2:z < x
     ·simp[k1,k2] at k
     ·simp only[k1,k2,if_false] at k ⊢;exact zbd h k
def Ris (l:List Entry):Prop:=l.Pairwise fun a b=>cmpL a.at_ b.at_ < 0
theorem ris_of:∀ {l:List Entry},(∀ (i:Nat) (a b:Entry),l[i]? = some a->l[i+1]? = some b->cmpL a.at_ b.at_ < 0)->Ris l
 | [],_=>.nil
 | [a],_=>.cons (by simp) .nil
 | a :: b :: l,h=>by
  have ih:Ris (b :: l):=ris_of fun i x y hx hy=>h (i+1) x y hx hy;have hab:=h 0 a b rfl rfl;refine .cons (fun x hx => ?_) ih;rcases List.mem_cons.1 hx with rfl | hx
  ·exact hab
  ·exact zbd hab (List.rel_of_pairwise_cons ih hx)
def zdh:List Entry->List Int->Nat
 | [],_=>0
 | e :: l,p=>if cmpL e.at_ p < 0 then zdh l p+1 else 0
def hasL:List Entry->List Int->Bool
 | [],_=>false
 | e :: l,p=>if cmpL e.at_ p < 0 then hasL l p else decide (cmpL e.at_ p=0)
def getL:List Entry->List Int->Option Int
 | [],_=>none
 | e :: l,p=>if cmpL e.at_ p < 0 then getL l p else if cmpL e.at_ p=0 then some e.n else none
theorem loc_le:∀ (l:List Entry) (p:List Int),zdh l p<=l.length
 | [],_=>Nat.le_refl _
 | e :: l,p=>by
  have:=loc_le l p;simp only[zdh,List.length_cons]
  split<;>omega
theorem loc_lt:∀ {l:List Entry} (p:List Int),Ris l->∀ (i:Nat) (e:Entry),l[i]? = some e->(cmpL e.at_ p < 0↔i < zdh l p)
 | [],p,_,i,e,h=>by cases h
 | a :: l,p,hr,i,e,h=>by
  have hr':=List.pairwise_cons.1 hr;simp only[zdh];cases i with
  | zero =>cases h;by_cases c:cmpL a.at_ p < 0<;>simp[c]
  | succ i =>
   have ih:=loc_lt p hr'.2 i e (by simpa using h);by_cases c:cmpL a.at_ p < 0
   ·simp[c,ih]
   ·have hae:=hr'.1 e (List.mem_of_getElem? (by simpa using h));have:¬ cmpL e.at_ p < 0:=fun h2=>c (zbd hae h2);simp[c,this]
theorem zg2:∀ (l:List Entry) (p:List Int),hasL l p=(match l[zdh l p]? with | some e=>decide (cmpL e.at_ p=0) | none=>false)
 | [],p=>rfl
 | e :: l,p=>by
  simp only[hasL,zdh];by_cases c:cmpL e.at_ p < 0
  ·simp only[c,if_true,List.getElem?_cons_succ];exact zg2 l p
  ·simp[c]
theorem get_has:∀ (l:List Entry) (p:List Int),getL l p=if hasL l p=true then (l[zdh l p]?).map (·.n) else none
 | [],p=>rfl
 | e :: l,p=>by
  simp only[getL,hasL,zdh];by_cases c:cmpL e.at_ p < 0
  ·simp only[c,if_true,List.getElem?_cons_succ];exact get_has l p
  ·by_cases c0:cmpL e.at_ p=0<;>simp[c,c0]
theorem half_eq {x:Nat} (h:x < 18446744073709551616):wi (IntKind.wrap .u64 (wi ((x:Nat):Int)) / 2)=((x / 2:Nat):Int):=by have e:IntKind.wrap .u64 (wi ((x:Nat):Int))=(x:Int):=(by simp[wi,IntKind.wrap,IntKind.bits,IntKind.signed];omega);rw[e,ju (by omega) (by omega)];omega
theorem P80_eq {l:List Entry} {p:List Int} (hr:Ris l) (hl:Lst Entry.gd l) (hp:p.length<=9223372036854775807):zit l ⟨p,0⟩=some ((zdh l p:Int),hasL l p):=by
 have hlen:=hl.1;have loop:∀ (n i j:Nat),j - i=n->i<=zdh l p->zdh l p<=j->j<=l.length->lpO (jS P61 l ⟨p,0⟩) ((i:Int),(j:Int))=some (.inl ((zdh l p:Int),(zdh l p:Int))):=by
  intro n
  induction n using Nat.strongRecOn with
  | _ n ih =>
   intro i j hn h1 h2 h3;by_cases hij:i < j
   ·have e1:(i:Int) < (j:Int):=by omega
    have hm:(i+j) / 2 < l.length:=by omega
    have ee:=getElem?_eq_getElem hm;have hg:=hl.2 _ (List.getElem_mem hm);have hc:=loc_lt p hr _ _ ee;have hh:wi (IntKind.wrap .u64 (wi ((i:Int)+(j:Int))) / 2)=(((i+j) / 2:Nat):Int):=by
     have:=half_eq (x:=i+j) (by omega)
     rwa [Int.natCast_add] at this
    by_cases c:cmpL l[(i+j) / 2].at_ p < 0
    ·have hB:jS P61 l ⟨p,0⟩ ((i:Int),(j:Int))=some (.nx ((((i+j) / 2+1:Nat):Int),(j:Int))):=(by simp only[jS,e1,decide_true,zo,hh,zh,ee,zl,ziv _ _ hg.1.1,c,zM,ji,wn];rw[ju (by omega) (by omega)];rfl);rw[zdP hB];have:=hc.1 c;exact ih (j - ((i+j) / 2+1)) (by omega) _ _ rfl (by omega) h2 h3
    ·have hB:jS P61 l ⟨p,0⟩ ((i:Int),(j:Int))=some (.nx ((i:Int),(((i+j) / 2:Nat):Int))):=(by simp only[jS,e1,decide_true,zo,hh,zh,ee,zl,ziv _ _ hg.1.1,c,decide_false,zg,zM,ji,wn]);rw[zdP hB];have:¬ (i+j) / 2 < zdh l p:=fun h=>c (hc.2 h);exact ih ((i+j) / 2 - i) (by omega) _ _ rfl h1 (by omega) (by omega)
   ·have hi:i=zdh l p:=by omega
    have hj:j=zdh l p:=by omega
    rw[qm (y:=((i:Int),(j:Int)))]
    ·rw[hi,hj]
    ·have e1:¬ (i:Int) < (j:Int):=by omega
     simp[jS,e1]
 have hL:=loop l.length 0 l.length (by omega) (Nat.zero_le _) (loc_le l p) (Nat.le_refl _);simp only[zit,S80_61,qY];rw[show ((0:Int),((l.length:Nat):Int))=(((0:Nat):Int),((l.length:Nat):Int)) from rfl,hL];simp only[ji];rw[zg2];by_cases c:zdh l p < l.length
 ·have e1:((zdh l p:Nat):Int) < ((l.length:Nat):Int):=by omega
  have ee:=getElem?_eq_getElem c;have hg:=hl.2 _ (List.getElem_mem c);simp only[e1,decide_true,zo,zh,ee,zl,ziv _ _ hg.1.1,zM,ji]
 ·have e1:¬ ((zdh l p:Nat):Int) < ((l.length:Nat):Int):=by omega
  have ee:l[zdh l p]? = none:=List.getElem?_eq_none (by omega);simp[e1,ee]
theorem P73_eq {l:List Entry} {p:List Int} (hr:Ris l) (hl:Lst Entry.gd l) (hp:p.length<=9223372036854775807):P73 l p=some ((zdh l p:Int),hasL l p):=by simp[P73,S73,P80_eq hr hl hp]
def zja:Option Int->Cell
 | some n=>⟨1,n⟩
 | none=>⟨0,0⟩
theorem P57_eq {l:List Entry} {p:List Int} (hr:Ris l) (hl:Lst Entry.gd l) (hp:p.length<=9223372036854775807):P57 l p=some (zja (getL l p)):=by
 simp only[P57,S57,P73_eq hr hl hp,zl];rw[get_has];cases h:hasL l p with
 | false=>simp[zja]
 | true =>
  rw[zg2] at h;split at h
  ·rename_i e he;simp[zh,he,zja]
  ·cases h
end
section
theorem PClone_eq {α:Type} {xs:List α} (h:xs.length<=1000000):wB xs=some xs:=by unfold wB;rw[zC (by unfold zF;omega)]
theorem ziu (p:List Int) (dim:Nat) (k:Int) (h1:dim < p.length) (hl:p.length<=1000):P70 p (dim:Int) k=some (p.set dim k):=by
 have e:P76 p=some p:=PClone_eq (by omega);have hd:(0:Int)<=(dim:Int)∧(dim:Int) < ((p.length:Nat):Int):=by omega
 simp only[P70,S70,e,zl,zC hd,Int.toNat_natCast,getElem?_eq_getElem h1]
theorem parts_up {l:List Member} (h:Rooted l) {i x:Int} (hx:x∈partsOf l i):i < x∧0<=x∧x < l.length:=by obtain ⟨k,rfl,h1,h2⟩:=zhQ.1 hx;unfold zhZ at h2;rw[getElem?_eq_getElem h1] at h2;simp only[decide_eq_true_eq] at h2;have:=h.up k _ (getElem?_eq_getElem h1);omega
section
variable (o:List Dim) (dim:Nat) (ms:List Member)
end
section
variable {o:List Dim} {dim:Nat} {d:Dim}
variable (ok:OutOk o) (hd:o[dim]? = some d)
include ok hd
end
section
variable {o:List Dim} {dim:Nat} {ms:List Member}
end
end
end Ab
