import Derived.Test.YtchidgkpkhloeaaGreatDoorH1
import Derived.Test.YtchidgkpkhloeaaGreatDoorH2
open List (getElem?_eq_getElem getElem_mem mem_cons mem_cons_of_mem)
set_option linter.unusedVariables false
set_option linter.unusedSimpArgs false
namespace Ab
open Go
section
theorem zg5:∀ a:List Int,cmpL a a=0
 | []=>rfl
 | x :: a=>by simp[cmpL,zg5 a]
theorem zbr:∀ a b:List Int,cmpL b a = - cmpL a b
 | [],[]=>rfl
 | [],_ :: _=>rfl
 | _ :: _,[]=>rfl
 | x :: a,y :: b=>by
  simp only[cmpL];by_cases h1:x < y
  ·have h2:¬ y < x:=by omega
   simp[h1,h2]
  ·by_cases h2:y < x
   ·simp[h1,h2]
   ·simp[h1,h2,zbr a b]
theorem cmpL_eq:∀ {a b:List Int},cmpL a b=0->a=b
 | [],[],_=>rfl
 | [],_ :: _,h=>by simp[cmpL] at h
 | _ :: _,[],h=>by simp[cmpL] at h
 | x :: a,y :: b,h=>by
  simp only[cmpL] at h;by_cases h1:x < y
  ·simp[h1] at h
  ·by_cases h2:y < x
   ·simp[h1,h2] at h
   ·simp only[h1,h2,if_false] at h;rw[cmpL_eq h,show x=y by omega]
theorem yW:∀ {a b c:List Int},cmpL a b < 0->cmpL b c < 0->cmpL a c < 0
 | [],[],_,h,_=>by simp[cmpL] at h
 | [],_ :: _,[],_,k=>by simp[cmpL] at k
 | [],_ :: _,_ :: _,_,_=>by simp[cmpL]
 | _ :: _,[],_,h,_=>by simp[cmpL] at h
 | _ :: _,_ :: _,[],_,k=>by simp[cmpL] at k
 | x :: a,y :: b,z :: c,h,k=>by
  simp only[cmpL] at h k ⊢;by_cases h1:x < y
  ·by_cases k1:y < z
   ·have:x < z:=by omega
    simp[this]
   ·by_cases k2:z < y
    ·simp[k1,k2] at k
    ·have:x < z:=by omega
     simp[this]
  ·by_cases h2:y < x
   ·simp[h1,h2] at h
   ·simp only[h1,h2,if_false] at h;have hxy:x=y:=by omega
    subst hxy;by_cases k1:x < z
    ·simp[k1]
    ·by_cases k2:z < x
     ·simp[k1,k2] at k
     ·simp only[k1,k2,if_false] at k ⊢;exact yW h k
theorem zfy {a b:List Int} (h:¬ cmpL a b < 0) (h0:¬ cmpL a b=0):cmpL b a < 0:=by rw[zbr a b];omega
def Ris (l:List Entry):Prop:=l.Pairwise fun a b=>cmpL a.at_ b.at_ < 0
theorem ris_of:∀ {l:List Entry},(∀ (i:Nat) (a b:Entry),l[i]? = some a->l[i+1]? = some b->cmpL a.at_ b.at_ < 0)->Ris l
 | [],_=>.nil
 | [a],_=>.cons (by simp) .nil
 | a :: b :: l,h=>by
  have ih:Ris (b :: l):=ris_of fun i x y hx hy=>h (i+1) x y hx hy;have hab:=h 0 a b rfl rfl;refine .cons (fun x hx => ?_) ih;rcases mem_cons.1 hx with rfl | hx
  ·exact hab
  ·exact yW hab (List.rel_of_pairwise_cons ih hx)
theorem Ris.rise {l:List Entry} (h:Ris l) (i:Nat) (a b:Entry) (ha:l[i]? = some a) (hb:l[i+1]? = some b):cmpL a.at_ b.at_ < 0:=by obtain ⟨h1,rfl⟩:=List.getElem?_eq_some_iff.1 ha;obtain ⟨h2,rfl⟩:=List.getElem?_eq_some_iff.1 hb;exact List.pairwise_iff_getElem.1 h i (i+1) h1 h2 (by omega)
theorem EntsOk.ris {o:List Dim} {l:List Entry} (h:EntsOk o l):Ris l:=ris_of h.rise
def yK:List Entry->List Int->Nat
 | [],_=>0
 | e :: l,p=>if cmpL e.at_ p < 0 then yK l p+1 else 0
def zhn:List Entry->List Int->Bool
 | [],_=>false
 | e :: l,p=>if cmpL e.at_ p < 0 then zhn l p else decide (cmpL e.at_ p=0)
def zhR:List Entry->List Int->Option Int
 | [],_=>none
 | e :: l,p=>if cmpL e.at_ p < 0 then zhR l p else if cmpL e.at_ p=0 then some e.n else none
def zdX:List Entry->List Int->Int->List Entry
 | [],p,n=>[⟨p,n⟩]
 | e :: l,p,n=>if cmpL e.at_ p < 0 then e :: zdX l p n else if cmpL e.at_ p=0 then ⟨p,n⟩ :: l else ⟨p,n⟩ :: e :: l
def eraL:List Entry->List Int->List Entry
 | [],_=>[]
 | e :: l,p=>if cmpL e.at_ p < 0 then e :: eraL l p else if cmpL e.at_ p=0 then l else e :: l
theorem loc_le:∀ (l:List Entry) (p:List Int),yK l p<=l.length
 | [],_=>Nat.le_refl _
 | e :: l,p=>by
  have:=loc_le l p;simp only[yK,List.length_cons]
  split<;>omega
theorem loc_lt:∀ {l:List Entry} (p:List Int),Ris l->∀ (i:Nat) (e:Entry),l[i]? = some e->(cmpL e.at_ p < 0↔i < yK l p)
 | [],p,_,i,e,h=>by cases h
 | a :: l,p,hr,i,e,h=>by
  have hr':=List.pairwise_cons.1 hr;simp only[yK];cases i with
  | zero =>cases h;by_cases c:cmpL a.at_ p < 0<;>simp[c]
  | succ i =>
   have ih:=loc_lt p hr'.2 i e (by simpa using h);by_cases c:cmpL a.at_ p < 0
   ·simp[c,ih]
   ·have hae:=hr'.1 e (List.mem_of_getElem? (by simpa using h));have:¬ cmpL e.at_ p < 0:=fun h2=>c (yW hae h2);simp[c,this]
theorem zfk:∀ (l:List Entry) (p:List Int),zhn l p=(match l[yK l p]? with | some e=>decide (cmpL e.at_ p=0) | none=>false)
 | [],p=>rfl
 | e :: l,p=>by
  simp only[zhn,yK];by_cases c:cmpL e.at_ p < 0
  ·simp only[c,if_true,List.getElem?_cons_succ];exact zfk l p
  ·simp[c]
theorem get_has:∀ (l:List Entry) (p:List Int),zhR l p=if zhn l p=true then (l[yK l p]?).map (·.n) else none
 | [],p=>rfl
 | e :: l,p=>by
  simp only[zhR,zhn,yK];by_cases c:cmpL e.at_ p < 0
  ·simp only[c,if_true,List.getElem?_cons_succ];exact get_has l p
  ·by_cases c0:cmpL e.at_ p=0<;>simp[c,c0]
theorem put_at:∀ (l:List Entry) (p:List Int) (n:Int),zdX l p n=l.take (yK l p)++⟨p,n⟩ :: l.drop (if zhn l p=true then yK l p+1 else yK l p)
 | [],p,n=>rfl
 | e :: l,p,n=>by
  simp only[zdX,yK,zhn];by_cases c:cmpL e.at_ p < 0
  ·simp only[c,if_true,List.take_succ_cons,List.cons_append];rw[put_at l p n]
   split<;>simp
  ·by_cases c0:cmpL e.at_ p=0<;>simp[c,c0]
theorem era_at:∀ (l:List Entry) (p:List Int),zhn l p=true->eraL l p=l.take (yK l p)++l.drop (yK l p+1)
 | [],p,h=>by cases h
 | e :: l,p,h=>by
  simp only[eraL,yK,zhn] at h ⊢;by_cases c:cmpL e.at_ p < 0
  ·simp only[c,if_true] at h ⊢;rw[era_at l p h];simp
  ·simp only[c,if_false,decide_eq_true_eq] at h;simp[c,h]
theorem zcY:∀ {l:List Entry} {p:List Int} {n:Int} {e:Entry},e∈zdX l p n->e=⟨p,n⟩∨e∈l
 | [],p,n,e,h=>.inl (by simpa[zdX] using h)
 | a :: l,p,n,e,h=>by
  simp only[zdX] at h;split at h
  ·rcases mem_cons.1 h with h | h
   ·exact .inr (h ▸ List.mem_cons_self)
   ·exact (zcY h).imp id (mem_cons_of_mem _)
  ·split at h
   ·exact (mem_cons.1 h).imp id (mem_cons_of_mem _)
   ·exact mem_cons.1 h
theorem put_ris:∀ {l:List Entry} (p:List Int) (n:Int),Ris l->Ris (zdX l p n)
 | [],p,n,_=>.cons (by simp) .nil
 | a :: l,p,n,h=>by
  have h':=List.pairwise_cons.1 h;simp only[zdX];by_cases c:cmpL a.at_ p < 0
  ·rw[if_pos c];refine .cons (fun x hx => ?_) (put_ris p n h'.2);rcases zcY hx with rfl | hx
   ·exact c
   ·exact h'.1 x hx
  ·rw[if_neg c];by_cases c0:cmpL a.at_ p=0
   ·rw[if_pos c0];have:=cmpL_eq c0;subst this;exact .cons h'.1 h'.2
   ·rw[if_neg c0];have hpa:=zfy c c0;refine .cons (fun x hx => ?_) h;rcases mem_cons.1 hx with rfl | hx
    ·exact hpa
    ·exact yW hpa (h'.1 x hx)
theorem zbm:∀ (l:List Entry) {p q:List Int} (n:Int),p≠q->zhR (zdX l p n) q=zhR l q
 | [],p,q,n,h=>by
  have h0:¬ cmpL p q=0:=fun e=>h (cmpL_eq e);simp[zdX,zhR,h0]
 | a :: l,p,q,n,h=>by
  have h0:¬ cmpL p q=0:=fun e=>h (cmpL_eq e);simp only[zdX];by_cases c:cmpL a.at_ p < 0
  ·rw[if_pos c];simp only[zhR];rw[zbm l n h]
  ·rw[if_neg c];by_cases c0:cmpL a.at_ p=0
   ·rw[if_pos c0];have:=cmpL_eq c0;subst this;simp[zhR,h0]
   ·rw[if_neg c0];have hpa:=zfy c c0;simp only[zhR];by_cases k:cmpL p q < 0
    ·rw[if_pos k]
    ·have hqp:=zfy k h0;have hqa:=yW hqp hpa;have e1:¬ cmpL a.at_ q < 0:=by rw[zbr q a.at_];omega
     have e2:¬ cmpL a.at_ q=0:=by rw[zbr q a.at_];omega
     simp[k,h0,e1,e2]
theorem EntsOk.put {o:List Dim} {l:List Entry} {p:List Int} {n:Int} (h:EntsOk o l) (hf:Fit o p) (hl:jE o p=true) (hv:zaH n=true):EntsOk o (zdX l p n):=by
 refine ⟨h.out,fun e he => ?_,fun e he => ?_,fun e he => ?_,(put_ris p n h.ris).rise⟩
 ·rcases zcY he with rfl | he
  ·exact hf
  ·exact h.fit e he
 ·rcases zcY he with rfl | he
  ·exact hl
  ·exact h.leaf e he
 ·rcases zcY he with rfl | he
  ·exact hv
  ·exact h.val e he
theorem nodup_lt:∀ (n:Nat) (l:List Nat),l.Nodup->(∀ x∈l,x < n)->l.length<=n:=by
 have sub:∀ (l r:List Nat),l.Nodup->(∀ x∈l,x∈r)->l.length<=r.length:=by
  intro l
  induction l with
  | nil=>intro r _ _;exact Nat.zero_le _
  | cons a l ih =>intro r hn h;have ha:=h a List.mem_cons_self;obtain ⟨h1,h2⟩:=List.nodup_cons.1 hn;have:=ih (r.erase a) h2 fun x hx=>(List.mem_erase_of_ne (show x≠a from fun e=>by subst e;exact h1 hx)).2 (h x (mem_cons_of_mem _ hx));rw[List.length_erase_of_mem ha] at this;have hr:0 < r.length:=List.length_pos_of_mem ha;simp only[List.length_cons];omega
 intro n l hn h;have:=sub l (List.range n) hn fun x hx=>List.mem_range.2 (h x hx);simpa using this
theorem OutOk.pos {o:List Dim} (ok:OutOk o):∀ d∈o,0 < d.members.length:=fun d hd=>by have:=(ok.dims d hd).len;omega
theorem EntsOk.len {o:List Dim} {l:List Entry} (h:EntsOk o l):l.length<=20736:=by have hz:=h.out.sizeN.2;have hnd:(l.map fun e=>qA o e.at_).Nodup:=(by have:l.Pairwise fun a b=>qA o a.at_≠qA o b.at_:=(by refine List.Pairwise.imp_of_mem (fun {a b} ha hb hab he => ?_) h.ris;have e1:=yq h.out.pos (h.fit a ha);have e2:=yq h.out.pos (h.fit b hb);rw[he,e2] at e1;have:b.at_=a.at_:=(Prod.mk.inj e1).1;rw[this,zg5] at hab;omega);exact List.pairwise_map.2 this);have:=nodup_lt (sizeN o) _ hnd fun x hx=>(by obtain ⟨e,he,rfl⟩:=List.mem_map.1 hx;exact yp (h.fit e he));rw[List.length_map] at this;omega
theorem EntsOk.gd {o:List Dim} {l:List Entry} (h:EntsOk o l) (hd:∀ d∈o,d.members.length<=1000):Lst Entry.gd l:=by
 have hl:=h.len;refine ⟨by omega,fun e he => ?_⟩;have hf:=h.fit e he;have hol:=h.out.len;have hv:=h.val e he;refine ⟨⟨by have:=hf.len;omega,fun x hx => ?_⟩, ?_⟩
 ·have hg:∀ {o:List Dim} {p:List Int},Fit o p->(∀ d∈o,d.members.length<=1000)->∀ x∈p,0<=x∧x < 1000:=by
   intro o
   induction o with
   | nil =>intro p hf _ x hx;have:=hf.len;rw[List.eq_nil_of_length_eq_zero this] at hx;cases hx
   | cons d o ih =>
    intro p hf hd x hx;cases p with
    | nil=>cases hx
    | cons m p =>
     obtain ⟨h1,h2⟩:=hf.tail;have hdm:=hd d List.mem_cons_self;rcases mem_cons.1 hx with rfl | hx
     ·omega
     ·exact ih h2 (fun d hd'=>hd d (mem_cons_of_mem _ hd')) x hx
  have:=hg hf hd x hx
  constructor<;>omega
 ·simp only[zaH,Bool.and_eq_true,decide_eq_true_eq] at hv
  constructor<;>omega
theorem OutOk.dm {o:List Dim} (ok:OutOk o):∀ d∈o,d.members.length<=1000:=fun d hd=>by have:=(ok.dims d hd).len;omega
theorem half_eq {x:Nat} (h:x < 18446744073709551616):wi (IntKind.wrap .u64 (wi ((x:Nat):Int)) / 2)=((x / 2:Nat):Int):=by have e:IntKind.wrap .u64 (wi ((x:Nat):Int))=(x:Int):=(by simp[wi,IntKind.wrap,IntKind.bits,IntKind.signed];omega);rw[e,jv (by omega) (by omega)];omega
theorem P80_eq {l:List Entry} {p:List Int} (hr:Ris l) (hl:Lst Entry.gd l) (hp:p.length<=9223372036854775807):zjt l ⟨p,0⟩=some ((yK l p:Int),zhn l p):=by
 have hlen:=hl.1;have loop:∀ (n i j:Nat),j - i=n->i<=yK l p->yK l p<=j->j<=l.length->lpO (yc P61 l ⟨p,0⟩) ((i:Int),(j:Int))=some (.inl ((yK l p:Int),(yK l p:Int))):=by
  intro n
  induction n using Nat.strongRecOn with
  | _ n ih =>
   intro i j hn h1 h2 h3;by_cases hij:i < j
   ·have e1:(i:Int) < (j:Int):=by omega
    have hm:(i+j) / 2 < l.length:=by omega
    have ee:=getElem?_eq_getElem hm;have hg:=hl.2 _ (getElem_mem hm);have hc:=loc_lt p hr _ _ ee;have hh:wi (IntKind.wrap .u64 (wi ((i:Int)+(j:Int))) / 2)=(((i+j) / 2:Nat):Int):=by
     have:=half_eq (x:=i+j) (by omega)
     rwa [Int.natCast_add] at this
    by_cases c:cmpL l[(i+j) / 2].at_ p < 0
    ·have hB:yc P61 l ⟨p,0⟩ ((i:Int),(j:Int))=some (.nx ((((i+j) / 2+1:Nat):Int),(j:Int))):=(by simp only[yc,e1,decide_true,zl,hh,zh,ee,zj,zju _ _ hg.1.1,c,zJ,q8,yG];rw[jv (by omega) (by omega)];rfl);rw[zci hB];have:=hc.1 c;exact ih (j - ((i+j) / 2+1)) (by omega) _ _ rfl (by omega) h2 h3
    ·have hB:yc P61 l ⟨p,0⟩ ((i:Int),(j:Int))=some (.nx ((i:Int),(((i+j) / 2:Nat):Int))):=(by simp only[yc,e1,decide_true,zl,hh,zh,ee,zj,zju _ _ hg.1.1,c,decide_false,zg,zJ,q8,yG]);rw[zci hB];have:¬ (i+j) / 2 < yK l p:=fun h=>c (hc.2 h);exact ih ((i+j) / 2 - i) (by omega) _ _ rfl h1 (by omega) (by omega)
   ·have hi:i=yK l p:=by omega
    have hj:j=yK l p:=by omega
    rw[qw (y:=((i:Int),(j:Int)))]
    ·rw[hi,hj]
    ·have e1:¬ (i:Int) < (j:Int):=by omega
     simp[yc,e1]
 have hL:=loop l.length 0 l.length (by omega) (Nat.zero_le _) (loc_le l p) (Nat.le_refl _);simp only[zjt,S80_61,jh];rw[show ((0:Int),((l.length:Nat):Int))=(((0:Nat):Int),((l.length:Nat):Int)) from rfl,hL];simp only[q8];rw[zfk];by_cases c:yK l p < l.length
 ·have e1:((yK l p:Nat):Int) < ((l.length:Nat):Int):=by omega
  have ee:=getElem?_eq_getElem c;have hg:=hl.2 _ (getElem_mem c);simp only[e1,decide_true,zl,zh,ee,zj,zju _ _ hg.1.1,zJ,q8]
 ·have e1:¬ ((yK l p:Nat):Int) < ((l.length:Nat):Int):=by omega
  have ee:l[yK l p]? = none:=List.getElem?_eq_none (by omega);simp[e1,ee]
theorem P73_eq {l:List Entry} {p:List Int} (hr:Ris l) (hl:Lst Entry.gd l) (hp:p.length<=9223372036854775807):P73 l p=some ((yK l p:Int),zhn l p):=by simp[P73,S73,P80_eq hr hl hp]
def cellL:Option Int->Cell
 | some n=>⟨1,n⟩
 | none=>⟨0,0⟩
theorem P57_eq {l:List Entry} {p:List Int} (hr:Ris l) (hl:Lst Entry.gd l) (hp:p.length<=9223372036854775807):P57 l p=some (cellL (zhR l p)):=by
 simp only[P57,S57,P73_eq hr hl hp,zj];rw[get_has];cases h:zhn l p with
 | false=>simp[cellL]
 | true =>
  rw[zfk] at h;split at h
  ·rename_i e he;simp[zh,he,cellL]
  ·cases h
def doL (o:List Dim) (l:List Entry) (e:Edit):List Entry×Int :=
 if ja o e.at_=0 then
  if e.clear=true then (if zhn l e.at_=true then (eraL l e.at_,0) else ([],5))
  else if jE o e.at_=false then ([],6) else if zaH e.n=false then ([],1) else (zdX l e.at_ e.n,0)
 else ([],ja o e.at_)
theorem zaV {α:Type} {xs:List α} (h:xs.length<=zH):zaF xs=some xs:=by simp[zaF,h]
theorem P71_eq {o:List Dim} {l:List Entry} {e:Edit} (ok:EntsOk o l) (he:e.at_.length<=9223372036854775807):P71 o l e=some ((doL o l e).1,zm (doL o l e).2):=by
 have hl:=ok.gd ok.out.dm;have hlen:=ok.len;have hol:=ok.out.len;simp only[P71,S71,zeF o e.at_ he,zj,zB];unfold doL;by_cases c1:ja o e.at_=0
 case neg=>simp[c1]
 have hf:=q9.1 c1;have hfl:=hf.len;simp only[c1,decide_true,Bool.not_true,zg,if_true,P73_eq ok.ris hl he,zj];have hloc:=loc_le l e.at_;have hone:wi (((yK l e.at_:Nat):Int)+1)=((yK l e.at_+1:Nat):Int):=by rw[jv (by omega) (by omega)];omega
 have hlt:zhn l e.at_=true->yK l e.at_ < l.length∧∃ e0,l[yK l e.at_]? = some e0∧e0.at_=e.at_:=fun h=>by
  rw[zfk] at h;split at h
  ·rename_i e0 he0;exact ⟨(List.getElem?_eq_some_iff.1 he0).1,e0,he0,cmpL_eq (of_decide_eq_true h)⟩
  ·cases h
 cases c2:e.clear with
 | true =>
  cases c3:zhn l e.at_ with
  | false=>simp[zm]
  | true =>have h77:P77 l ((yK l e.at_:Nat):Int) ((yK l e.at_+1:Nat):Int)=some (eraL l e.at_):=(by unfold P77;have:=(hlt c3).1;rw[era_at l e.at_ c3,zw (by omega)];simp);simp[hone,zm];rw[show ((yK l e.at_:Nat):Int)+1=((yK l e.at_+1:Nat):Int) by omega,h77];rfl
 | false =>
  simp only[Bool.false_eq_true,if_false,zg,zJ,q8,zjv hf he ok.out.dm,zj];cases c3:jE o e.at_ with
  | false=>simp[zm]
  | true =>
   simp only[Bool.not_true,zg,P60_eq,zj];cases c4:zaH e.n with
   | false=>simp[zm]
   | true =>
    simp only[Bool.not_true,zg];rw[put_at];cases c5:zhn l e.at_ with
    | true =>
     obtain ⟨h1,e0,h2,h3⟩:=hlt c5;have hck:0<=((yK l e.at_:Nat):Int)∧((yK l e.at_:Nat):Int) < ((l.length:Nat):Int):=by omega
     simp only[zl,zw hck,Int.toNat_natCast,h2,zj,h3];simp[zm,List.set_eq_take_append_cons_drop,h1]
    | false =>have h76:P76s e.at_=some e.at_:=zaV (by unfold zH;omega);simp only[zg,h76,zj];have h78:P78 l ((yK l e.at_:Nat):Int) [⟨e.at_,e.n⟩]=some (l.take (yK l e.at_)++⟨e.at_,e.n⟩ :: l.drop (yK l e.at_)):=(by unfold P78;rw[zw (by unfold zjQ;simp;omega)];simp);rw[h78];simp[zm]
theorem P72_eq {l:List Entry} (hl:l.length<=zH) (hp:∀ e∈l,e.at_.length<=zH):P72 l=some l:=by
 have h79:P79 l=some l:=zaV hl;simp only[P72,S72,h79,zj,jh];have hs:=zU (B:=zeD P76s l) (fun i=>((i:Int),l)) l.length (fun i hi=>by
  have e:((i:Nat):Int) < ((l.length:Nat):Int):=by omega
  have hck:0<=((i:Nat):Int)∧((i:Nat):Int) < ((l.length:Nat):Int):=by omega
  have ee:=getElem?_eq_getElem hi;have h76:P76s l[i].at_=some l[i].at_:=zaV (hp _ (getElem_mem hi));have hroom:l.length<=6000000000000:=hl;simp only[zeD,e,decide_true,zl,zw hck,Int.toNat_natCast,ee,zj,h76,yG];rw[jv (by omega) (by omega)];have:l.set i ⟨l[i].at_,l[i].n⟩=l:=(by rw[show (⟨l[i].at_,l[i].n⟩:Entry)=l[i] from rfl];exact List.set_getElem_self hi);rw[this]
  rfl)
 have e0:lpO (zeD P76s l) (0,l)=lpO (zeD P76s l) ((l.length:Int),l):=hs;rw[e0,qw (y:=((l.length:Int),l)) (by simp[zeD])];rfl
def oneL (o:List Dim) (l:List Entry) (e:Edit):List Entry×Int:=if zfs o l=0 then doL o l e else ([],zfs o l)
theorem P55_eq {o:List Dim} {l:List Entry} {e:Edit} (hl:Lst Entry.gd l) (he:e.at_.length<=9223372036854775807):P55 o l e=some ((oneL o l e).1,zm (oneL o l e).2):=by
 simp only[P55,S55,P27_eq o l hl,zj,zB];unfold oneL;by_cases h:zfs o l=0
 ·have ok:=zfr.1 h;have h72:P72 l=some l:=P72_eq (by have:=ok.len;unfold zH;omega) fun e he=>by have:=(ok.fit e he).len;have:=ok.out.len;unfold zH;omega
  simp[h,h72,P71_eq ok he]
 ·simp[h]
theorem P25_eq {o:List Dim} {l:List Entry} {p:List Int} {n:Int} (hl:Lst Entry.gd l) (he:p.length<=9223372036854775807):P25 o l p n=some ((oneL o l ⟨p,n,false⟩).1,zm (oneL o l ⟨p,n,false⟩).2):=by simp[P25,S25,P55_eq (e:=⟨p,n,false⟩) hl he]
theorem set_ok {o:List Dim} {l:List Entry} {p:List Int} {n:Int} (h:(oneL o l ⟨p,n,false⟩).2=0):EntsOk o l∧Fit o p∧jE o p=true∧zaH n=true∧(oneL o l ⟨p,n,false⟩).1=zdX l p n:=by
 unfold oneL at h ⊢;by_cases h0:zfs o l=0
 case neg=>rw[if_neg h0] at h;exact absurd h h0
 rw[if_pos h0] at h ⊢;unfold doL at h ⊢;by_cases c1:ja o p=0
 case neg=>simp only[c1,if_false] at h
 simp only[c1,if_true,Bool.false_eq_true,if_false] at h ⊢;cases c3:jE o p with
 | false=>simp[c3] at h
 | true =>
  cases c4:zaH n with
  | false=>simp[c3,c4] at h
  | true=>exact ⟨zfr.1 h0,q9.1 c1,rfl,rfl,by simp[c3,c4]⟩
end
section
theorem PClone_eq {α:Type} {xs:List α} (h:xs.length<=1000000):zaF xs=some xs:=by unfold zaF;rw[zw (by unfold zH;omega)]
theorem P70_eq (p:List Int) (dim:Nat) (k:Int) (h1:dim < p.length) (hl:p.length<=1000):P70 p (dim:Int) k=some (p.set dim k):=by
 have e:P76 p=some p:=PClone_eq (by omega);have hd:(0:Int)<=(dim:Int)∧(dim:Int) < ((p.length:Nat):Int):=by omega
 simp only[P70,S70,e,zj,zw hd,Int.toNat_natCast,getElem?_eq_getElem h1]
theorem parts_up {l:List Member} (h:Rooted l) {i x:Int} (hx:x∈partsOf l i):i < x∧0<=x∧x < l.length:=by obtain ⟨k,rfl,h1,h2⟩:=ziM.1 hx;unfold ziW at h2;rw[getElem?_eq_getElem h1] at h2;simp only[decide_eq_true_eq] at h2;have:=h.up k _ (getElem?_eq_getElem h1);omega
section
variable (o:List Dim) (dim:Nat) (ms:List Member)
end
section
variable {o:List Dim} {dim:Nat} {d:Dim}
variable (ok:OutOk o) (hd:o[dim]? = some d)
include ok hd
end
section
variable {o:List Dim} {dim:Nat} {ms:List Member}
end
end
end Ab
