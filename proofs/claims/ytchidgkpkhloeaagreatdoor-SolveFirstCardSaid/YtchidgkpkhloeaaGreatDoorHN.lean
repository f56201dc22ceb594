import Derived.Test.YtchidgkpkhloeaaGreatDoorH1
import Derived.Test.YtchidgkpkhloeaaGreatDoorH2
import Derived.Test.YtchidgkpkhloeaaGreatDoorC4
import Derived.Test.YtchidgkpkhloeaaGreatDoorHC
import Derived.Test.YtchidgkpkhloeaaGreatDoorH9
section
namespace Ab
open Go
set_option linter.unusedVariables false
set_option linter.unusedSimpArgs false
theorem cmpL_trans:∀ {a b c:List Int},cmpL a b < 0→cmpL b c < 0→cmpL a c < 0
 | [],[],_,h,_=>by simp [cmpL] at h
 | [],_ :: _,[],_,k=>by simp [cmpL] at k
 | [],_ :: _,_ :: _,_,_=>by simp [cmpL]
 | _ :: _,[],_,h,_=>by simp [cmpL] at h
 | _ :: _,_ :: _,[],_,k=>by simp [cmpL] at k
 | x :: a,y :: b,z :: c,h,k=>by
  simp only [cmpL] at h k ⊢
  by_cases h1:x < y
  ·by_cases k1:y < z
   ·have:x < z:=by omega
    simp [this]
   ·by_cases k2:z < y
    ·simp [k1,k2] at k
    ·have:x < z:=by omega
     simp [this]
  ·by_cases h2:y < x
   ·simp [h1,h2] at h
   ·simp only [h1,h2,if_false] at h
    have hxy:x=y:=by omega
    subst hxy
    by_cases k1:x < z
    ·simp [k1]
    ·by_cases k2:z < x
     ·simp [k1,k2] at k
     ·simp only [k1,k2,if_false] at k ⊢
      exact cmpL_trans h k
def Ris (l:List Entry):Prop:=l.Pairwise fun a b=>cmpL a.at_ b.at_ < 0
theorem ris_of:∀ {l:List Entry},(∀ (i:Nat) (a b:Entry),l[i]? = some a→l[i+1]? = some b→cmpL a.at_ b.at_ < 0)→Ris l
 | [],_=>.nil
 | [a],_=>.cons (by simp) .nil
 | a :: b :: l,h=>by
  have ih:Ris (b :: l):=ris_of fun i x y hx hy=>h (i+1) x y hx hy
  have hab:=h 0 a b rfl rfl
  refine .cons (fun x hx => ?_) ih
  rcases List.mem_cons.1 hx with rfl | hx
  ·exact hab
  ·exact cmpL_trans hab (List.rel_of_pairwise_cons ih hx)
def locL:List Entry→List Int→Nat
 | [],_=>0
 | e :: l,p=>if cmpL e.at_ p < 0 then locL l p+1 else 0
def hasL:List Entry→List Int→Bool
 | [],_=>false
 | e :: l,p=>if cmpL e.at_ p < 0 then hasL l p else decide (cmpL e.at_ p=0)
def getL:List Entry→List Int→Option Int
 | [],_=>none
 | e :: l,p=>if cmpL e.at_ p < 0 then getL l p else if cmpL e.at_ p=0 then some e.n else none
theorem loc_le:∀ (l:List Entry) (p:List Int),locL l p≤l.length
 | [],_=>Nat.le_refl _
 | e :: l,p=>by
  have:=loc_le l p
  simp only [locL,List.length_cons]
  split<;>omega
theorem loc_lt:∀ {l:List Entry} (p:List Int),Ris l→∀ (i:Nat) (e:Entry),l[i]? = some e→(cmpL e.at_ p < 0↔i < locL l p)
 | [],p,_,i,e,h=>by cases h
 | a :: l,p,hr,i,e,h=>by
  have hr':=List.pairwise_cons.1 hr
  simp only [locL]
  cases i with
  | zero =>
   cases h
   by_cases c:cmpL a.at_ p < 0<;>simp [c]
  | succ i =>
   have ih:=loc_lt p hr'.2 i e (by simpa using h)
   by_cases c:cmpL a.at_ p < 0
   ·simp [c,ih]
   ·have hae:=hr'.1 e (List.mem_of_getElem? (by simpa using h))
    have:¬ cmpL e.at_ p < 0:=fun h2=>c (cmpL_trans hae h2)
    simp [c,this]
theorem has_loc:∀ (l:List Entry) (p:List Int),hasL l p=(match l[locL l p]? with | some e=>decide (cmpL e.at_ p=0) | none=>false)
 | [],p=>rfl
 | e :: l,p=>by
  simp only [hasL,locL]
  by_cases c:cmpL e.at_ p < 0
  ·simp only [c,if_true,List.getElem?_cons_succ];exact has_loc l p
  ·simp [c]
theorem get_has:∀ (l:List Entry) (p:List Int),getL l p=if hasL l p=true then (l[locL l p]?).map (·.n) else none
 | [],p=>rfl
 | e :: l,p=>by
  simp only [getL,hasL,locL]
  by_cases c:cmpL e.at_ p < 0
  ·simp only [c,if_true,List.getElem?_cons_succ];exact get_has l p
  ·by_cases c0:cmpL e.at_ p=0<;>simp [c,c0]
theorem half_eq {x:Nat} (h:x < 18446744073709551616):wi (IntKind.wrap .u64 (wi ((x:Nat):Int)) / 2)=((x / 2:Nat):Int):=by
 have e:IntKind.wrap .u64 (wi ((x:Nat):Int))=(x:Int):=by
  simp [wi,IntKind.wrap,IntKind.bits,IntKind.signed]
  omega
 rw [e,wiid (by omega) (by omega)]
 omega
theorem P80_eq {l:List Entry} {p:List Int} (hr:Ris l) (hl:Lst Entry.gd l) (hp:p.length≤9223372036854775807):P80_61 l ⟨p,0⟩=some ((locL l p:Int),hasL l p):=by
 have hlen:=hl.1
 have loop:∀ (n i j:Nat),j - i=n→i≤locL l p→locL l p≤j→j≤l.length→lpO (S80_61_L1 P61 l ⟨p,0⟩) ((i:Int),(j:Int))=some (.inl ((locL l p:Int),(locL l p:Int))):=by
  intro n
  induction n using Nat.strongRecOn with
  | _ n ih =>
   intro i j hn h1 h2 h3
   by_cases hij:i < j
   ·have e1:(i:Int) < (j:Int):=by omega
    have hm:(i+j) / 2 < l.length:=by omega
    have ee:=List.getElem?_eq_getElem hm
    have hg:=hl.2 _ (List.getElem_mem hm)
    have hc:=loc_lt p hr _ _ ee
    have hh:wi (IntKind.wrap .u64 (wi ((i:Int)+(j:Int))) / 2)=(((i+j) / 2:Nat):Int):=by
     have:=half_eq (x:=i+j) (by omega)
     rwa [Int.natCast_add] at this
    by_cases c:cmpL l[(i+j) / 2].at_ p < 0
    ·have hB:S80_61_L1 P61 l ⟨p,0⟩ ((i:Int),(j:Int))=some (.nx ((((i+j) / 2+1:Nat):Int),(j:Int))):=by
      simp only [S80_61_L1,e1,decide_true,br_true,hh,lookI_nat,ee,bno_s,P61_eq _ _ hg.1.1,c,inlO_s,jn_l,nxO_s]
      rw [wiid (by omega) (by omega)]
      rfl
     rw [lpO_nx hB]
     have:=hc.1 c
     exact ih (j - ((i+j) / 2+1)) (by omega) _ _ rfl (by omega) h2 h3
    ·have hB:S80_61_L1 P61 l ⟨p,0⟩ ((i:Int),(j:Int))=some (.nx ((i:Int),(((i+j) / 2:Nat):Int))):=by
      simp only [S80_61_L1,e1,decide_true,br_true,hh,lookI_nat,ee,bno_s,P61_eq _ _ hg.1.1,c,decide_false,br_false,inlO_s,jn_l,nxO_s]
     rw [lpO_nx hB]
     have:¬ (i+j) / 2 < locL l p:=fun h=>c (hc.2 h)
     exact ih ((i+j) / 2 - i) (by omega) _ _ rfl h1 (by omega) (by omega)
   ·have hi:i=locL l p:=by omega
    have hj:j=locL l p:=by omega
    rw [lpO_dn (y:=((i:Int),(j:Int)))]
    ·rw [hi,hj]
    ·have e1:¬ (i:Int) < (j:Int):=by omega
     simp [S80_61_L1,e1]
 have hL:=loop l.length 0 l.length (by omega) (Nat.zero_le _) (loc_le l p) (Nat.le_refl _)
 simp only [P80_61,S80_61,lp_eq]
 rw [show ((0:Int),((l.length:Nat):Int))=(((0:Nat):Int),((l.length:Nat):Int)) from rfl,hL]
 simp only [jn_l]
 rw [has_loc]
 by_cases c:locL l p < l.length
 ·have e1:((locL l p:Nat):Int) < ((l.length:Nat):Int):=by omega
  have ee:=List.getElem?_eq_getElem c
  have hg:=hl.2 _ (List.getElem_mem c)
  simp only [e1,decide_true,br_true,lookI_nat,ee,bno_s,P61_eq _ _ hg.1.1,inlO_s,jn_l]
 ·have e1:¬ ((locL l p:Nat):Int) < ((l.length:Nat):Int):=by omega
  have ee:l[locL l p]? = none:=List.getElem?_eq_none (by omega)
  simp [e1,ee]
theorem P73_eq {l:List Entry} {p:List Int} (hr:Ris l) (hl:Lst Entry.gd l) (hp:p.length≤9223372036854775807):P73 l p=some ((locL l p:Int),hasL l p):=by
 simp [P73,S73,P80_eq hr hl hp]
def cellL:Option Int→Cell
 | some n=>⟨1,n⟩
 | none=>⟨0,0⟩
theorem P57_eq {l:List Entry} {p:List Int} (hr:Ris l) (hl:Lst Entry.gd l) (hp:p.length≤9223372036854775807):P57 l p=some (cellL (getL l p)):=by
 simp only [P57,S57,P73_eq hr hl hp,bno_s]
 rw [get_has]
 cases h:hasL l p with
 | false=>simp [cellL]
 | true =>
  rw [has_loc] at h
  split at h
  ·rename_i e he
   simp [lookI_nat,he,cellL]
  ·cases h
end Ab
end
section
namespace Ab
open Go
set_option linter.unusedVariables false
set_option linter.unusedSimpArgs false
theorem PClone_eq {α:Type} {xs:List α} (h:xs.length≤1000000):PClone xs=some xs:=by
 unfold PClone
 rw [ck_pos (by unfold roomA;omega)]
theorem P70_eq (p:List Int) (dim:Nat) (k:Int) (h1:dim < p.length) (hl:p.length≤1000):P70 p (dim:Int) k=some (p.set dim k):=by
 have e:P76 p=some p:=PClone_eq (by omega)
 have hd:(0:Int)≤(dim:Int)∧(dim:Int) < ((p.length:Nat):Int):=by omega
 simp only [P70,S70,e,bno_s,ck_pos hd,Int.toNat_natCast,List.getElem?_eq_getElem h1]
theorem parts_up {l:List Member} (h:Rooted l) {i x:Int} (hx:x∈partsOf l i):i < x∧0≤x∧x < l.length:=by
 obtain ⟨k,rfl,h1,h2⟩:=mem_idxs.1 hx
 unfold isPart at h2
 rw [List.getElem?_eq_getElem h1] at h2
 simp only [decide_eq_true_eq] at h2
 have:=h.up k _ (List.getElem?_eq_getElem h1)
 omega
section
variable (o:List Dim) (dim:Nat) (ms:List Member)
end
section
variable {o:List Dim} {dim:Nat} {d:Dim}
variable (ok:OutOk o) (hd:o[dim]? = some d)
include ok hd
end
section
variable {o:List Dim} {dim:Nat} {ms:List Member}
end
end Ab
end
