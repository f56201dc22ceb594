import Derived.Test.YtchidgkpkhloeaaGreatDoorH1
import Derived.Test.YtchidgkpkhloeaaGreatDoorC4
open List (getElem?_eq_getElem)
set_option linter.unusedVariables false
set_option linter.unusedSimpArgs false
namespace Ab
open Go
section
theorem zaR:∀ a:List Int,cmpL a a=0
 | []=>rfl
 | x :: a=>by simp[cmpL,zaR a]
theorem cmpL_eq:∀ {a b:List Int},cmpL a b=0->a=b
 | [],[],_=>rfl
 | [],_ :: _,h=>by simp[cmpL] at h
 | _ :: _,[],h=>by simp[cmpL] at h
 | x :: a,y :: b,h=>by
  simp only[cmpL] at h;by_cases h1:x < y
  ·simp[h1] at h
  ·by_cases h2:y < x
   ·simp[h1,h2] at h
   ·simp only[h1,h2,if_false] at h;rw[cmpL_eq h,show x=y by omega]
theorem wQ:∀ {a b c:List Int},cmpL a b < 0->cmpL b c < 0->cmpL a c < 0
 | [],[],_,h,_=>by simp[cmpL] at h
 | [],_ :: _,[],_,k=>by simp[cmpL] at k
 | [],_ :: _,_ :: _,_,_=>by simp[cmpL]
 | _ :: _,[],_,h,_=>by simp[cmpL] at h
 | _ :: _,_ :: _,[],_,k=>by simp[cmpL] at k
 | x :: a,y :: b,z :: c,h,k=>by
  simp only[cmpL] at h k ⊢;by_cases h1:x < y
  ·by_cases k1:y < z
   ·have:x < z:=by omega
    simp[this]
   ·by_cases k2:z < y
    ·simp[k1,k2] at k
    ·have:x < z:=by omega
     simp[this]
  ·by_cases h2:y < x
   ·simp[h1,h2] at h
   ·simp only[h1,h2,if_false] at h;have hxy:x=y:=by omega
    subst hxy;by_cases k1:x < z
    ·simp[k1]
    ·by_cases k2:z < x
     ·simp[k1,k2] at k
     ·simp only[k1,k2,if_false] at k ⊢;exact wQ h k
def Ris (l:List Entry):Prop:=l.Pairwise fun a b=>cmpL a.at_ b.at_ < 0
theorem ris_of:∀ {l:List Entry},(∀ (i:Nat) (a b:Entry),l[i]? = some a->l[i+1]? = some b->cmpL a.at_ b.at_ < 0)->Ris l
 | [],_=>.nil
 | [a],_=>.cons (by simp) .nil
 | a :: b :: l,h=>by
  have ih:Ris (b :: l):=ris_of fun i x y hx hy=>h (i+1) x y hx hy;have hab:=h 0 a b rfl rfl;refine .cons (fun x hx => ?_) ih;rcases List.mem_cons.1 hx with rfl | hx
  ·exact hab
  ·exact wQ hab (List.rel_of_pairwise_cons ih hx)
theorem EntsOk.ris {o:List Dim} {l:List Entry} (h:EntsOk o l):Ris l:=ris_of h.rise
def zdm:List Entry->List Int->Nat
 | [],_=>0
 | e :: l,p=>if cmpL e.at_ p < 0 then zdm l p+1 else 0
def hasL:List Entry->List Int->Bool
 | [],_=>false
 | e :: l,p=>if cmpL e.at_ p < 0 then hasL l p else decide (cmpL e.at_ p=0)
def zjq:List Entry->List Int->Option Int
 | [],_=>none
 | e :: l,p=>if cmpL e.at_ p < 0 then zjq l p else if cmpL e.at_ p=0 then some e.n else none
theorem loc_le:∀ (l:List Entry) (p:List Int),zdm l p<=l.length
 | [],_=>Nat.le_refl _
 | e :: l,p=>by
  have:=loc_le l p;simp only[zdm,List.length_cons]
  split<;>omega
theorem loc_lt:∀ {l:List Entry} (p:List Int),Ris l->∀ (i:Nat) (e:Entry),l[i]? = some e->(cmpL e.at_ p < 0↔i < zdm l p)
 | [],p,_,i,e,h=>by cases h
 | a :: l,p,hr,i,e,h=>by
  have hr':=List.pairwise_cons.1 hr;simp only[zdm];cases i with
  | zero =>
   cases h;by_cases c:cmpL a.at_ p < 0<;>simp[c]
  | succ i =>
   have ih:=loc_lt p hr'.2 i e (by simpa using h);by_cases c:cmpL a.at_ p < 0
   ·simp[c,ih]
   ·have hae:=hr'.1 e (List.mem_of_getElem? (by simpa using h));have:¬ cmpL e.at_ p < 0:=fun h2=>c (wQ hae h2);simp[c,this]
theorem zg5:∀ (l:List Entry) (p:List Int),hasL l p=(match l[zdm l p]? with | some e=>decide (cmpL e.at_ p=0) | none=>false)
 | [],p=>rfl
 | e :: l,p=>by
  simp only[hasL,zdm];by_cases c:cmpL e.at_ p < 0
  ·simp only[c,if_true,List.getElem?_cons_succ];exact zg5 l p
  ·simp[c]
theorem get_has:∀ (l:List Entry) (p:List Int),zjq l p=if hasL l p=true then (l[zdm l p]?).map (·.n) else none
 | [],p=>rfl
 | e :: l,p=>by
  simp only[zjq,hasL,zdm];by_cases c:cmpL e.at_ p < 0
  ·simp only[c,if_true,List.getElem?_cons_succ];exact get_has l p
  ·by_cases c0:cmpL e.at_ p=0<;>simp[c,c0]
theorem nodup_lt:∀ (n:Nat) (l:List Nat),l.Nodup->(∀ x∈l,x < n)->l.length<=n:=by
 have sub:∀ (l r:List Nat),l.Nodup->(∀ x∈l,x∈r)->l.length<=r.length:=by
  intro l
  induction l with
  | nil=>intro r _ _;exact Nat.zero_le _
  | cons a l ih =>
   intro r hn h;have ha:=h a List.mem_cons_self;obtain ⟨h1,h2⟩:=List.nodup_cons.1 hn;have:=ih (r.erase a) h2 fun x hx=>(List.mem_erase_of_ne (show x≠a from fun e=>by subst e;exact h1 hx)).2 (h x (List.mem_cons_of_mem _ hx));rw[List.length_erase_of_mem ha] at this;have hr:0 < r.length:=List.length_pos_of_mem ha;simp only[List.length_cons];omega
 intro n l hn h;have:=sub l (List.range n) hn fun x hx=>List.mem_range.2 (h x hx);simpa using this
theorem OutOk.pos {o:List Dim} (ok:OutOk o):∀ d∈o,0 < d.members.length:=fun d hd=>by have:=(ok.dims d hd).len;omega
theorem EntsOk.len {o:List Dim} {l:List Entry} (h:EntsOk o l):l.length<=20736:=by
 have hz:=h.out.sizeN.2;have hnd:(l.map fun e=>zbL o e.at_).Nodup:=by
  have:l.Pairwise fun a b=>zbL o a.at_≠zbL o b.at_:=by
   refine List.Pairwise.imp_of_mem (fun {a b} ha hb hab he => ?_) h.ris;have e1:=jV h.out.pos (h.fit a ha);have e2:=jV h.out.pos (h.fit b hb);rw[he,e2] at e1;have:b.at_=a.at_:=(Prod.mk.inj e1).1;rw[this,zaR] at hab;omega
  exact List.pairwise_map.2 this
 have:=nodup_lt (sizeN o) _ hnd fun x hx=>by
  obtain ⟨e,he,rfl⟩:=List.mem_map.1 hx;exact zcr (h.fit e he)
 rw[List.length_map] at this;omega
theorem half_eq {x:Nat} (h:x < 18446744073709551616):wi (IntKind.wrap .u64 (wi ((x:Nat):Int)) / 2)=((x / 2:Nat):Int):=by
 have e:IntKind.wrap .u64 (wi ((x:Nat):Int))=(x:Int):=by
  simp[wi,IntKind.wrap,IntKind.bits,IntKind.signed];omega
 rw[e,qX (by omega) (by omega)];omega
theorem P80_eq {l:List Entry} {p:List Int} (hr:Ris l) (hl:Lst Entry.gd l) (hp:p.length<=9223372036854775807):ziF l ⟨p,0⟩=some ((zdm l p:Int),hasL l p):=by
 have hlen:=hl.1;have loop:∀ (n i j:Nat),j - i=n->i<=zdm l p->zdm l p<=j->j<=l.length->lpO (jK P61 l ⟨p,0⟩) ((i:Int),(j:Int))=some (.inl ((zdm l p:Int),(zdm l p:Int))):=by
  intro n
  induction n using Nat.strongRecOn with
  | _ n ih =>
   intro i j hn h1 h2 h3;by_cases hij:i < j
   ·have e1:(i:Int) < (j:Int):=by omega
    have hm:(i+j) / 2 < l.length:=by omega
    have ee:=getElem?_eq_getElem hm;have hg:=hl.2 _ (List.getElem_mem hm);have hc:=loc_lt p hr _ _ ee;have hh:wi (IntKind.wrap .u64 (wi ((i:Int)+(j:Int))) / 2)=(((i+j) / 2:Nat):Int):=by
     have:=half_eq (x:=i+j) (by omega)
     rwa [Int.natCast_add] at this
    by_cases c:cmpL l[(i+j) / 2].at_ p < 0
    ·have hB:jK P61 l ⟨p,0⟩ ((i:Int),(j:Int))=some (.nx ((((i+j) / 2+1:Nat):Int),(j:Int))):=by
      simp only[jK,e1,decide_true,zq,hh,zf,ee,zo,ziG _ _ hg.1.1,c,zM,jx,zfM];rw[qX (by omega) (by omega)];rfl
     rw[zac hB];have:=hc.1 c;exact ih (j - ((i+j) / 2+1)) (by omega) _ _ rfl (by omega) h2 h3
    ·have hB:jK P61 l ⟨p,0⟩ ((i:Int),(j:Int))=some (.nx ((i:Int),(((i+j) / 2:Nat):Int))):=by
      simp only[jK,e1,decide_true,zq,hh,zf,ee,zo,ziG _ _ hg.1.1,c,decide_false,zg,zM,jx,zfM]
     rw[zac hB];have:¬ (i+j) / 2 < zdm l p:=fun h=>c (hc.2 h);exact ih ((i+j) / 2 - i) (by omega) _ _ rfl h1 (by omega) (by omega)
   ·have hi:i=zdm l p:=by omega
    have hj:j=zdm l p:=by omega
    rw[qp (y:=((i:Int),(j:Int)))]
    ·rw[hi,hj]
    ·have e1:¬ (i:Int) < (j:Int):=by omega
     simp[jK,e1]
 have hL:=loop l.length 0 l.length (by omega) (Nat.zero_le _) (loc_le l p) (Nat.le_refl _);simp only[ziF,S80_61,jD];rw[show ((0:Int),((l.length:Nat):Int))=(((0:Nat):Int),((l.length:Nat):Int)) from rfl,hL];simp only[jx];rw[zg5];by_cases c:zdm l p < l.length
 ·have e1:((zdm l p:Nat):Int) < ((l.length:Nat):Int):=by omega
  have ee:=getElem?_eq_getElem c;have hg:=hl.2 _ (List.getElem_mem c);simp only[e1,decide_true,zq,zf,ee,zo,ziG _ _ hg.1.1,zM,jx]
 ·have e1:¬ ((zdm l p:Nat):Int) < ((l.length:Nat):Int):=by omega
  have ee:l[zdm l p]? = none:=List.getElem?_eq_none (by omega);simp[e1,ee]
theorem P73_eq {l:List Entry} {p:List Int} (hr:Ris l) (hl:Lst Entry.gd l) (hp:p.length<=9223372036854775807):P73 l p=some ((zdm l p:Int),hasL l p):=by
 simp[P73,S73,P80_eq hr hl hp]
def cellL:Option Int->Cell
 | some n=>⟨1,n⟩
 | none=>⟨0,0⟩
theorem P57_eq {l:List Entry} {p:List Int} (hr:Ris l) (hl:Lst Entry.gd l) (hp:p.length<=9223372036854775807):P57 l p=some (cellL (zjq l p)):=by
 simp only[P57,S57,P73_eq hr hl hp,zo];rw[get_has];cases h:hasL l p with
 | false=>simp[cellL]
 | true =>
  rw[zg5] at h;split at h
  ·rename_i e he;simp[zf,he,cellL]
  ·cases h
end
section
theorem PClone_eq {α:Type} {xs:List α} (h:xs.length<=1000000):zgu xs=some xs:=by
 unfold zgu;rw[zE (by unfold roomA;omega)]
theorem P70_eq (p:List Int) (dim:Nat) (k:Int) (h1:dim < p.length) (hl:p.length<=1000):P70 p (dim:Int) k=some (p.set dim k):=by
 have e:P76 p=some p:=PClone_eq (by omega);have hd:(0:Int)<=(dim:Int)∧(dim:Int) < ((p.length:Nat):Int):=by omega
 simp only[P70,S70,e,zo,zE hd,Int.toNat_natCast,getElem?_eq_getElem h1]
theorem parts_up {l:List Member} (h:Rooted l) {i x:Int} (hx:x∈partsOf l i):i < x∧0<=x∧x < l.length:=by
 obtain ⟨k,rfl,h1,h2⟩:=zeG.1 hx;unfold zcC at h2;rw[getElem?_eq_getElem h1] at h2;simp only[decide_eq_true_eq] at h2;have:=h.up k _ (getElem?_eq_getElem h1);omega
section
variable (o:List Dim) (dim:Nat) (ms:List Member)
def idxK (n:Nat) (k:Int):Nat:=zbL o ((zbZ o n).1.set dim k)
def comb1 (cs:List Cell) (n:Nat) (c:Cell) (k:Int):Cell:=if sgn ms k=0 then c else wb c (cs.getD (idxK o dim n k) ⟨0,0⟩) (sgn ms k)
end
section
variable {o:List Dim} {dim:Nat} {d:Dim}
variable (ok:OutOk o) (hd:o[dim]? = some d)
include ok hd
theorem rooted_d:Rooted d.members:=(ok.dims d (List.mem_of_getElem? hd)).rooted
end
section
variable {o:List Dim} {dim:Nat} {ms:List Member}
end
end
end Ab
