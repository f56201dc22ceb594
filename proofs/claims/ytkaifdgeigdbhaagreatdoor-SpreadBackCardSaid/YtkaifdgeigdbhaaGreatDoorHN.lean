import Derived.Test.YtkaifdgeigdbhaaGreatDoorH1
import Derived.Test.YtkaifdgeigdbhaaGreatDoorH2
set_option linter.all false
namespace Ab
open Go
section
def zgR:∀ a:List Int,cmpL a a=0
 | []=>rfl
 | x :: a=>by simp[cmpL,zgR a]
def zgQ:∀ a b:List Int,cmpL b a = - cmpL a b
 | [],[]=>rfl
 | [],_ :: _=>rfl
 | _ :: _,[]=>rfl
 | x :: a,y :: b=>by
  simp only[cmpL];by_cases h1:x < y
  ·have h2:¬ y < x:=by omega
   simp[h1,h2]
  ·by_cases h2:y < x
   ·simp[h1,h2]
   ·simp[h1,h2,zgQ a b]
def cmpL_eq:∀ {a b:List Int},cmpL a b=0->a=b
 | [],[],_=>rfl
 | [],_ :: _,h=>by simp[cmpL] at h
 | _ :: _,[],h=>by simp[cmpL] at h
 | x :: a,y :: b,h=>by
  simp only[cmpL] at h;by_cases h1:x < y
  ·simp[h1] at h
  ·by_cases h2:y < x
   ·simp[h1,h2] at h
   ·simp only[h1,h2,if_false] at h;rw[cmpL_eq h,show x=y by omega]
def zac:∀ {a b c:List Int},cmpL a b < 0->cmpL b c < 0->cmpL a c < 0
 | [],[],_,h,_=>by simp[cmpL] at h
 | [],_ :: _,[],_,k=>by simp[cmpL] at k
 | [],_ :: _,_ :: _,_,_=>by simp[cmpL]
 | _ :: _,[],_,h,_=>by simp[cmpL] at h
 | _ :: _,_ :: _,[],_,k=>by simp[cmpL] at k
 | x :: a,y :: b,z :: c,h,k=>by
  simp only[cmpL] at h k ⊢;by_cases h1:x < y
  ·by_cases k1:y < z
   ·have:x < z:=by omega
    simp[this]
   ·by_cases k2:z < y
    ·simp[k1,k2] at k
    ·have:x < z:=by omega
     simp[this]
  ·by_cases h2:y < x
   ·simp[h1,h2] at h
   ·simp only[h1,h2,if_false] at h;have nT:x=y:=by omega
    subst nT;by_cases k1:x < z
    ·simp[k1]
    ·by_cases k2:z < x
     ·simp[k1,k2] at k
     ·simp only[k1,k2,if_false] at k ⊢;exact zac h k
def cmpL_neg {a b:List Int} (h:¬ cmpL a b < 0) (h0:¬ cmpL a b=0):cmpL b a < 0:=by rw[zgQ a b];omega
def Ris (l:List Entry):Prop:=l.Pairwise fun a b=>cmpL a.at_ b.at_ < 0
def ris_of:∀ {l:List Entry},(∀ (i:Nat) (a b:Entry),l[i]? = some a->l[i+1]? = some b->cmpL a.at_ b.at_ < 0)->Ris l
 | [],_=>.nil
 | [a],_=>.cons (by simp) .nil
 | a :: b :: l,h=>by
  have ih:Ris (b :: l):=ris_of fun i x y hx hy=>h (i+1) x y hx hy;have kR:=h 0 a b rfl rfl;refine .cons (fun x hx => ?_) ih;rcases Ap.1 hx with rfl | hx
  ·exact kR
  ·exact zac kR (Cu ih hx)
def Ris.rise {l:List Entry} (h:Ris l) (i:Nat) (a b:Entry) (ha:l[i]? = some a) (hb:l[i+1]? = some b):cmpL a.at_ b.at_ < 0:=by obtain ⟨h1,rfl⟩:=Ac.1 ha;obtain ⟨h2,rfl⟩:=Ac.1 hb;exact Cw.1 h i (i+1) h1 h2 (by omega)
def EntsOk.ris {o:List Dim} {l:List Entry} (h:EntsOk o l):Ris l:=ris_of h.rise
def zdP:List Entry->List Int->Nat
 | [],_=>0
 | e :: l,p=>if cmpL e.at_ p < 0 then zdP l p+1 else 0
def hasL:List Entry->List Int->Bool
 | [],_=>false
 | e :: l,p=>if cmpL e.at_ p < 0 then hasL l p else decide (cmpL e.at_ p=0)
def getL:List Entry->List Int->Option Int
 | [],_=>none
 | e :: l,p=>if cmpL e.at_ p < 0 then getL l p else if cmpL e.at_ p=0 then some e.n else none
def putL:List Entry->List Int->Int->List Entry
 | [],p,n=>[⟨p,n⟩]
 | e :: l,p,n=>if cmpL e.at_ p < 0 then e :: putL l p n else if cmpL e.at_ p=0 then ⟨p,n⟩ :: l else ⟨p,n⟩ :: e :: l
def loc_le:∀ (l:List Entry) (p:List Int),zdP l p<=l.length
 | [],_=>AJ _
 | e :: l,p=>by
  have:=loc_le l p;simp only[zdP,Au]
  split<;>omega
def loc_lt:∀ {l:List Entry} (p:List Int),Ris l->∀ (i:Nat) (e:Entry),l[i]? = some e->(cmpL e.at_ p < 0↔i < zdP l p)
 | [],p,_,i,e,h=>by cases h
 | a :: l,p,hr,i,e,h=>by
  have bQ:=BD.1 hr;simp only[zdP];cases i with
  | zero =>cases h;by_cases c:cmpL a.at_ p < 0<;>simp[c]
  | succ i =>
   have ih:=loc_lt p bQ.2 i e (by simpa using h);by_cases c:cmpL a.at_ p < 0
   ·simp[c,ih]
   ·have hae:=bQ.1 e (Ad (by simpa using h));have:¬ cmpL e.at_ p < 0:=fun h2=>c (zac hae h2);simp[c,this]
def zhG:∀ (l:List Entry) (p:List Int),hasL l p=(match l[zdP l p]? with | some e=>decide (cmpL e.at_ p=0) | none=>false)
 | [],p=>rfl
 | e :: l,p=>by
  simp only[hasL,zdP];by_cases c:cmpL e.at_ p < 0
  ·simp only[c,if_true,AU];exact zhG l p
  ·simp[c]
def get_has:∀ (l:List Entry) (p:List Int),getL l p=if hasL l p=true then (l[zdP l p]?).map (·.n) else none
 | [],p=>rfl
 | e :: l,p=>by
  simp only[getL,hasL,zdP];by_cases c:cmpL e.at_ p < 0
  ·simp only[c,if_true,AU];exact get_has l p
  ·by_cases c0:cmpL e.at_ p=0<;>simp[c,c0]
def zcN:∀ {l:List Entry} {p:List Int} {n:Int} {e:Entry},e∈putL l p n->e=⟨p,n⟩∨e∈l
 | [],p,n,e,h=>.inl (by simpa[putL] using h)
 | a :: l,p,n,e,h=>by
  simp only[putL] at h;split at h
  ·rcases Ap.1 h with h | h
   ·exact .inr (h ▸ Ai)
   ·exact (zcN h).imp id (Ae _)
  ·split at h
   ·exact (Ap.1 h).imp id (Ae _)
   ·exact Ap.1 h
def put_ris:∀ {l:List Entry} (p:List Int) (n:Int),Ris l->Ris (putL l p n)
 | [],p,n,_=>.cons (by simp) .nil
 | a :: l,p,n,h=>by
  have h':=BD.1 h;simp only[putL];by_cases c:cmpL a.at_ p < 0
  ·rw[if_pos c];refine .cons (fun x hx => ?_) (put_ris p n h'.2);rcases zcN hx with rfl | hx
   ·exact c
   ·exact h'.1 x hx
  ·rw[if_neg c];by_cases c0:cmpL a.at_ p=0
   ·rw[if_pos c0];have:=cmpL_eq c0;subst this;exact .cons h'.1 h'.2
   ·rw[if_neg c0];have n9:=cmpL_neg c c0;refine .cons (fun x hx => ?_) h;rcases Ap.1 hx with rfl | hx
    ·exact n9
    ·exact zac n9 (h'.1 x hx)
def EntsOk.put {o:List Dim} {l:List Entry} {p:List Int} {n:Int} (h:EntsOk o l) (hf:Fit o p) (hl:wH o p=true) (hv:zcB n=true):EntsOk o (putL l p n):=by
 refine ⟨h.out,fun e he => ?_,fun e he => ?_,fun e he => ?_,(put_ris p n h.ris).rise⟩
 ·rcases zcN he with rfl | he
  ·exact hf
  ·exact h.fit e he
 ·rcases zcN he with rfl | he
  ·exact hl
  ·exact h.leaf e he
 ·rcases zcN he with rfl | he
  ·exact hv
  ·exact h.val e he
def nodup_lt:∀ (n:Nat) (l:List Nat),l.Nodup->(∀ x∈l,x < n)->l.length<=n:=by
 have sub:∀ (l r:List Nat),l.Nodup->(∀ x∈l,x∈r)->l.length<=r.length:=by
  intro l
  induction l with
  | nil=>intro r _ _;exact Bx _
  | cons a l ih =>intro r hn h;have ha:=h a Ai;obtain ⟨h1,h2⟩:=CO.1 hn;have:=ih (r.erase a) h2 fun x hx=>(CS (show x≠a from fun e=>by subst e;exact h1 hx)).2 (h x (Ae _ hx));rw[CD ha] at this;have hr:0 < r.length:=CL ha;simp only[Au];omega
 intro n l hn h;have:=sub l (List.range n) hn fun x hx=>AR.2 (h x hx);simpa using this
def OutOk.pos {o:List Dim} (ok:OutOk o):∀ d∈o,0 < d.members.length:=fun d hd=>by have:=(ok.dims d hd).len;omega
def EntsOk.len {o:List Dim} {l:List Entry} (h:EntsOk o l):l.length<=20736:=by have hz:=h.out.sizeN.2;have hnd:(l.map fun e=>numN o e.at_).Nodup:=(by have:l.Pairwise fun a b=>numN o a.at_≠numN o b.at_:=(by refine List.Pairwise.imp_of_mem (fun {a b} ha hb kR he => ?_) h.ris;have e1:=zeS h.out.pos (h.fit a ha);have e2:=zeS h.out.pos (h.fit b hb);rw[he,e2] at e1;have:b.at_=a.at_:=(Prod.mk.inj e1).1;rw[this,zgR] at kR;omega);exact List.pairwise_map.2 this);have:=nodup_lt (sizeN o) _ hnd fun x hx=>(by obtain ⟨e,he,rfl⟩:=Am.1 hx;exact num_lt (h.fit e he));rw[An] at this;omega
def EntsOk.gd {o:List Dim} {l:List Entry} (h:EntsOk o l) (hd:∀ d∈o,d.members.length<=1000):Lst Entry.gd l:=by
 have hl:=h.len;refine ⟨by omega,fun e he => ?_⟩;have hf:=h.fit e he;have fU:=h.out.len;have hv:=h.val e he;refine ⟨⟨by have:=hf.len;omega,fun x hx => ?_⟩, ?_⟩
 ·have hg:∀ {o:List Dim} {p:List Int},Fit o p->(∀ d∈o,d.members.length<=1000)->∀ x∈p,0<=x∧x < 1000:=by
   intro o
   induction o with
   | nil =>intro p hf _ x hx;have:=hf.len;rw[Bq this] at hx;cases hx
   | cons d o ih =>
    intro p hf hd x hx;cases p with
    | nil=>cases hx
    | cons m p =>
     obtain ⟨h1,h2⟩:=hf.tail;have kO:=hd d Ai;rcases Ap.1 hx with rfl | hx
     ·omega
     ·exact ih h2 (fun d mF=>hd d (Ae _ mF)) x hx
  have:=hg hf hd x hx
  constructor<;>omega
 ·simp only[zcB,Al,decide_eq_true_eq] at hv
  constructor<;>omega
def half_eq {x:Nat} (h:x < 18446744073709551616):wi (IntKind.wrap .u64 (wi ((x:Nat):Int)) / 2)=((x / 2:Nat):Int):=by have e:IntKind.wrap .u64 (wi ((x:Nat):Int))=(x:Int):=(by simp[wi,IntKind.wrap,IntKind.bits,IntKind.signed];omega);rw[e,zN (by omega) (by omega)];omega
def P80_eq {l:List Entry} {p:List Int} (hr:Ris l) (hl:Lst Entry.gd l) (hp:p.length<=9223372036854775807):kj l ⟨p,0⟩=some ((zdP l p:Int),hasL l p):=by
 have hlen:=hl.1;have loop:∀ (n i j:Nat),j - i=n->i<=zdP l p->zdP l p<=j->j<=l.length->lpO (jR P61 l ⟨p,0⟩) ((i:Int),(j:Int))=some (.inl ((zdP l p:Int),(zdP l p:Int))):=by
  intro n
  induction n using Nat.strongRecOn with
  | _ n ih =>
   intro i j hn h1 h2 h3;by_cases mq:i < j
   ·have e1:(i:Int) < (j:Int):=by omega
    have hm:(i+j) / 2 < l.length:=by omega
    have ee:=Aa hm;have hg:=hl.2 _ (AO hm);have hc:=loc_lt p hr _ _ ee;have hh:wi (IntKind.wrap .u64 (wi ((i:Int)+(j:Int))) / 2)=(((i+j) / 2:Nat):Int):=by
     have:=half_eq (x:=i+j) (by omega)
     rwa [CP] at this
    by_cases c:cmpL l[(i+j) / 2].at_ p < 0
    ·have hB:jR P61 l ⟨p,0⟩ ((i:Int),(j:Int))=some (.nx ((((i+j) / 2+1:Nat):Int),(j:Int))):=(by simp only[jR,e1,decide_true,zh,hh,zi,ee,zk,ki _ _ hg.1.1,c,zx,z8,yN];rw[zN (by omega) (by omega)];rfl);rw[zZ hB];have:=hc.1 c;exact ih (j - ((i+j) / 2+1)) (by omega) _ _ rfl (by omega) h2 h3
    ·have hB:jR P61 l ⟨p,0⟩ ((i:Int),(j:Int))=some (.nx ((i:Int),(((i+j) / 2:Nat):Int))):=(by simp only[jR,e1,decide_true,zh,hh,zi,ee,zk,ki _ _ hg.1.1,c,decide_false,za,zx,z8,yN]);rw[zZ hB];have:¬ (i+j) / 2 < zdP l p:=fun h=>c (hc.2 h);exact ih ((i+j) / 2 - i) (by omega) _ _ rfl h1 (by omega) (by omega)
   ·have hi:i=zdP l p:=by omega
    have hj:j=zdP l p:=by omega
    rw[zB (y:=((i:Int),(j:Int)))]
    ·rw[hi,hj]
    ·have e1:¬ (i:Int) < (j:Int):=by omega
     simp[jR,e1]
 have hL:=loop l.length 0 l.length (by omega) (Bx _) (loc_le l p) (AJ _);simp only[kj,S80_61,qe];rw[show ((0:Int),((l.length:Nat):Int))=(((0:Nat):Int),((l.length:Nat):Int)) from rfl,hL];simp only[z8];rw[zhG];by_cases c:zdP l p < l.length
 ·have e1:((zdP l p:Nat):Int) < ((l.length:Nat):Int):=by omega
  have ee:=Aa c;have hg:=hl.2 _ (AO c);simp only[e1,decide_true,zh,zi,ee,zk,ki _ _ hg.1.1,zx,z8]
 ·have e1:¬ ((zdP l p:Nat):Int) < ((l.length:Nat):Int):=by omega
  have ee:l[zdP l p]? = none:=Ba (by omega);simp[e1,ee]
def P73_eq {l:List Entry} {p:List Int} (hr:Ris l) (hl:Lst Entry.gd l) (hp:p.length<=9223372036854775807):P73 l p=some ((zdP l p:Int),hasL l p):=by simp[P73,S73,P80_eq hr hl hp]
def cellL:Option Int->Cell
 | some n=>⟨1,n⟩
 | none=>⟨0,0⟩
def P57_eq {l:List Entry} {p:List Int} (hr:Ris l) (hl:Lst Entry.gd l) (hp:p.length<=9223372036854775807):P57 l p=some (cellL (getL l p)):=by
 simp only[P57,S57,P73_eq hr hl hp,zk];rw[get_has];cases h:hasL l p with
 | false=>simp[cellL]
 | true =>
  rw[zhG] at h;split at h
  ·rename_i e he;simp[zi,he,cellL]
  ·cases h
end
section
def parts_up {l:List Member} (h:Rooted l) {i x:Int} (hx:x∈partsOf l i):i < x∧0<=x∧x < l.length:=by obtain ⟨k,rfl,h1,h2⟩:=ziu.1 hx;unfold ziz at h2;rw[Aa h1] at h2;simp only[decide_eq_true_eq] at h2;have:=h.up k _ (Aa h1);omega
section
variable (o:List Dim) (dim:Nat) (ms:List Member)
end
section
variable {o:List Dim} {dim:Nat} {d:Dim}
variable (ok:OutOk o) (hd:o[dim]? = some d)
include ok hd
end
section
variable {o:List Dim} {dim:Nat} {ms:List Member}
end
end
end Ab
