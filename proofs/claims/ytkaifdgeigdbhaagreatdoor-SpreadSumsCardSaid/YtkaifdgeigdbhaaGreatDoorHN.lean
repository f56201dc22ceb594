import Derived.Test.YtkaifdgeigdbhaaGreatDoorH1
import Derived.Test.YtkaifdgeigdbhaaGreatDoorH2
set_option linter.all false
namespace Ab
open Go
section
def jf:∀ a:List Int,cmpL a a=0
 | []=>rfl
 | x :: a=>by simp[cmpL,jf a]
def zbB:∀ a b:List Int,cmpL b a = - cmpL a b
 | [],[]=>rfl
 | [],_ :: _=>rfl
 | _ :: _,[]=>rfl
 | x :: a,y :: b=>by
  simp only[cmpL];by_cases h1:x < y
  ·have h2:¬ y < x:=by omega
   simp[h1,h2]
  ·by_cases h2:y < x
   ·simp[h1,h2]
   ·simp[h1,h2,zbB a b]
def cmpL_eq:∀ {a b:List Int},cmpL a b=0->a=b
 | [],[],_=>rfl
 | [],_ :: _,h=>by simp[cmpL] at h
 | _ :: _,[],h=>by simp[cmpL] at h
 | x :: a,y :: b,h=>by
  simp only[cmpL] at h;by_cases h1:x < y
  ·simp[h1] at h
  ·by_cases h2:y < x
   ·simp[h1,h2] at h
   ·simp only[h1,h2,if_false] at h;rw[cmpL_eq h,show x=y by omega]
def jV:∀ {a b c:List Int},cmpL a b < 0->cmpL b c < 0->cmpL a c < 0
 | [],[],_,h,_=>by simp[cmpL] at h
 | [],_ :: _,[],_,k=>by simp[cmpL] at k
 | [],_ :: _,_ :: _,_,_=>by simp[cmpL]
 | _ :: _,[],_,h,_=>by simp[cmpL] at h
 | _ :: _,_ :: _,[],_,k=>by simp[cmpL] at k
 | x :: a,y :: b,z :: c,h,k=>by
  simp only[cmpL] at h k ⊢;by_cases h1:x < y
  ·by_cases k1:y < z
   ·have:x < z:=by omega
    simp[this]
   ·by_cases k2:z < y
    ·simp[k1,k2] at k
    ·have:x < z:=by omega
     simp[this]
  ·by_cases h2:y < x
   ·simp[h1,h2] at h
   ·simp only[h1,h2,if_false] at h;have pN:x=y:=by omega
    subst pN;by_cases k1:x < z
    ·simp[k1]
    ·by_cases k2:z < x
     ·simp[k1,k2] at k
     ·simp only[k1,k2,if_false] at k ⊢;exact jV h k
def zdc {a b:List Int} (h:¬ cmpL a b < 0) (h0:¬ cmpL a b=0):cmpL b a < 0:=by rw[zbB a b];omega
def Ris (l:List Entry):Prop:=l.Pairwise fun a b=>cmpL a.at_ b.at_ < 0
def ris_of:∀ {l:List Entry},(∀ (i:Nat) (a b:Entry),l[i]? = some a->l[i+1]? = some b->cmpL a.at_ b.at_ < 0)->Ris l
 | [],_=>.nil
 | [a],_=>.cons (by simp) .nil
 | a :: b :: l,h=>by
  have ih:Ris (b :: l):=ris_of fun i x y hx hy=>h (i+1) x y hx hy;have ll:=h 0 a b rfl rfl;refine .cons (fun x hx => ?_) ih;rcases Ar.1 hx with rfl | hx
  ·exact ll
  ·exact jV ll (CI ih hx)
def Ris.rise {l:List Entry} (h:Ris l) (i:Nat) (a b:Entry) (ha:l[i]? = some a) (hb:l[i+1]? = some b):cmpL a.at_ b.at_ < 0:=by obtain ⟨h1,rfl⟩:=Ac.1 ha;obtain ⟨h2,rfl⟩:=Ac.1 hb;exact CJ.1 h i (i+1) h1 h2 (by omega)
def EntsOk.ris {o:List Dim} {l:List Entry} (h:EntsOk o l):Ris l:=ris_of h.rise
def yW:List Entry->List Int->Nat
 | [],_=>0
 | e :: l,p=>if cmpL e.at_ p < 0 then yW l p+1 else 0
def zhk:List Entry->List Int->Bool
 | [],_=>false
 | e :: l,p=>if cmpL e.at_ p < 0 then zhk l p else decide (cmpL e.at_ p=0)
def zcM:List Entry->List Int->Option Int
 | [],_=>none
 | e :: l,p=>if cmpL e.at_ p < 0 then zcM l p else if cmpL e.at_ p=0 then some e.n else none
def zfz:List Entry->List Int->Int->List Entry
 | [],p,n=>[⟨p,n⟩]
 | e :: l,p,n=>if cmpL e.at_ p < 0 then e :: zfz l p n else if cmpL e.at_ p=0 then ⟨p,n⟩ :: l else ⟨p,n⟩ :: e :: l
def eraL:List Entry->List Int->List Entry
 | [],_=>[]
 | e :: l,p=>if cmpL e.at_ p < 0 then e :: eraL l p else if cmpL e.at_ p=0 then l else e :: l
def loc_le:∀ (l:List Entry) (p:List Int),yW l p<=l.length
 | [],_=>AF _
 | e :: l,p=>by
  have:=loc_le l p;simp only[yW,As]
  split<;>omega
def loc_lt:∀ {l:List Entry} (p:List Int),Ris l->∀ (i:Nat) (e:Entry),l[i]? = some e->(cmpL e.at_ p < 0↔i < yW l p)
 | [],p,_,i,e,h=>by cases h
 | a :: l,p,hr,i,e,h=>by
  have bZ:=Bl.1 hr;simp only[yW];cases i with
  | zero =>cases h;by_cases c:cmpL a.at_ p < 0<;>simp[c]
  | succ i =>
   have ih:=loc_lt p bZ.2 i e (by simpa using h);by_cases c:cmpL a.at_ p < 0
   ·simp[c,ih]
   ·have hae:=bZ.1 e (Ad (by simpa using h));have:¬ cmpL e.at_ p < 0:=fun h2=>c (jV hae h2);simp[c,this]
def zfQ:∀ (l:List Entry) (p:List Int),zhk l p=(match l[yW l p]? with | some e=>decide (cmpL e.at_ p=0) | none=>false)
 | [],p=>rfl
 | e :: l,p=>by
  simp only[zhk,yW];by_cases c:cmpL e.at_ p < 0
  ·simp only[c,if_true,AX];exact zfQ l p
  ·simp[c]
def get_has:∀ (l:List Entry) (p:List Int),zcM l p=if zhk l p=true then (l[yW l p]?).map (·.n) else none
 | [],p=>rfl
 | e :: l,p=>by
  simp only[zcM,zhk,yW];by_cases c:cmpL e.at_ p < 0
  ·simp only[c,if_true,AX];exact get_has l p
  ·by_cases c0:cmpL e.at_ p=0<;>simp[c,c0]
def put_at:∀ (l:List Entry) (p:List Int) (n:Int),zfz l p n=l.take (yW l p)++⟨p,n⟩ :: l.drop (if zhk l p=true then yW l p+1 else yW l p)
 | [],p,n=>rfl
 | e :: l,p,n=>by
  simp only[zfz,yW,zhk];by_cases c:cmpL e.at_ p < 0
  ·simp only[c,if_true,List.take_succ_cons,AE];rw[put_at l p n]
   split<;>simp
  ·by_cases c0:cmpL e.at_ p=0<;>simp[c,c0]
def era_at:∀ (l:List Entry) (p:List Int),zhk l p=true->eraL l p=l.take (yW l p)++l.drop (yW l p+1)
 | [],p,h=>by cases h
 | e :: l,p,h=>by
  simp only[eraL,yW,zhk] at h ⊢;by_cases c:cmpL e.at_ p < 0
  ·simp only[c,if_true] at h ⊢;rw[era_at l p h];simp
  ·simp only[c,if_false,decide_eq_true_eq] at h;simp[c,h]
def zds:∀ {l:List Entry} {p:List Int} {n:Int} {e:Entry},e∈zfz l p n->e=⟨p,n⟩∨e∈l
 | [],p,n,e,h=>.inl (by simpa[zfz] using h)
 | a :: l,p,n,e,h=>by
  simp only[zfz] at h;split at h
  ·rcases Ar.1 h with h | h
   ·exact .inr (h ▸ Ai)
   ·exact (zds h).imp id (Ae _)
  ·split at h
   ·exact (Ar.1 h).imp id (Ae _)
   ·exact Ar.1 h
def zdR:∀ {l:List Entry} {p:List Int} {e:Entry},e∈eraL l p->e∈l
 | [],p,e,h=>h
 | a :: l,p,e,h=>by
  simp only[eraL] at h;split at h
  ·rcases Ar.1 h with h | h
   ·exact h ▸ Ai
   ·exact Ae _ (zdR h)
  ·split at h
   ·exact Ae _ h
   ·exact h
def put_ris:∀ {l:List Entry} (p:List Int) (n:Int),Ris l->Ris (zfz l p n)
 | [],p,n,_=>.cons (by simp) .nil
 | a :: l,p,n,h=>by
  have h':=Bl.1 h;simp only[zfz];by_cases c:cmpL a.at_ p < 0
  ·rw[if_pos c];refine .cons (fun x hx => ?_) (put_ris p n h'.2);rcases zds hx with rfl | hx
   ·exact c
   ·exact h'.1 x hx
  ·rw[if_neg c];by_cases c0:cmpL a.at_ p=0
   ·rw[if_pos c0];have:=cmpL_eq c0;subst this;exact .cons h'.1 h'.2
   ·rw[if_neg c0];have lZ:=zdc c c0;refine .cons (fun x hx => ?_) h;rcases Ar.1 hx with rfl | hx
    ·exact lZ
    ·exact jV lZ (h'.1 x hx)
def era_ris:∀ {l:List Entry} (p:List Int),Ris l->Ris (eraL l p)
 | [],p,_=>.nil
 | a :: l,p,h=>by
  have h':=Bl.1 h;simp only[eraL];split
  ·exact .cons (fun x hx=>h'.1 x (zdR hx)) (era_ris p h'.2)
  ·split
   ·exact h'.2
   ·exact h
def zcz:∀ (l:List Entry) (p:List Int) (n:Int),zcM (zfz l p n) p=some n
 | [],p,n=>by simp[zfz,zcM,jf]
 | a :: l,p,n=>by
  simp only[zfz];by_cases c:cmpL a.at_ p < 0
  ·rw[if_pos c];simp only[zcM,if_pos c];exact zcz l p n
  ·rw[if_neg c];by_cases c0:cmpL a.at_ p=0
   ·rw[if_pos c0];simp[zcM,jf]
   ·rw[if_neg c0];simp[zcM,jf]
def zbw:∀ (l:List Entry) {p q:List Int} (n:Int),p≠q->zcM (zfz l p n) q=zcM l q
 | [],p,q,n,h=>by
  have h0:¬ cmpL p q=0:=fun e=>h (cmpL_eq e);simp[zfz,zcM,h0]
 | a :: l,p,q,n,h=>by
  have h0:¬ cmpL p q=0:=fun e=>h (cmpL_eq e);simp only[zfz];by_cases c:cmpL a.at_ p < 0
  ·rw[if_pos c];simp only[zcM];rw[zbw l n h]
  ·rw[if_neg c];by_cases c0:cmpL a.at_ p=0
   ·rw[if_pos c0];have:=cmpL_eq c0;subst this;simp[zcM,h0]
   ·rw[if_neg c0];have lZ:=zdc c c0;simp only[zcM];by_cases k:cmpL p q < 0
    ·rw[if_pos k]
    ·have hqp:=zdc k h0;have hqa:=jV hqp lZ;have e1:¬ cmpL a.at_ q < 0:=by rw[zbB q a.at_];omega
     have e2:¬ cmpL a.at_ q=0:=by rw[zbB q a.at_];omega
     simp[k,h0,e1,e2]
def EntsOk.put {o:List Dim} {l:List Entry} {p:List Int} {n:Int} (h:EntsOk o l) (hf:Fit o p) (hl:yw o p=true) (hv:wS n=true):EntsOk o (zfz l p n):=by
 refine ⟨h.out,fun e he => ?_,fun e he => ?_,fun e he => ?_,(put_ris p n h.ris).rise⟩
 ·rcases zds he with rfl | he
  ·exact hf
  ·exact h.fit e he
 ·rcases zds he with rfl | he
  ·exact hl
  ·exact h.leaf e he
 ·rcases zds he with rfl | he
  ·exact hv
  ·exact h.val e he
def EntsOk.era {o:List Dim} {l:List Entry} {p:List Int} (h:EntsOk o l):EntsOk o (eraL l p) :=
 ⟨h.out,fun e he=>h.fit e (zdR he),fun e he=>h.leaf e (zdR he),fun e he=>h.val e (zdR he),(era_ris p h.ris).rise⟩
def nodup_lt:∀ (n:Nat) (l:List Nat),l.Nodup->(∀ x∈l,x < n)->l.length<=n:=by
 have sub:∀ (l r:List Nat),l.Nodup->(∀ x∈l,x∈r)->l.length<=r.length:=by
  intro l
  induction l with
  | nil=>intro r _ _;exact BE _
  | cons a l ih =>intro r hn h;have ha:=h a Ai;obtain ⟨h1,h2⟩:=BM.1 hn;have:=ih (r.erase a) h2 fun x hx=>(C4 (show x≠a from fun e=>by subst e;exact h1 hx)).2 (h x (Ae _ hx));rw[CS ha] at this;have hr:0 < r.length:=CW ha;simp only[As];omega
 intro n l hn h;have:=sub l (List.range n) hn fun x hx=>A9.2 (h x hx);simpa using this
def OutOk.pos {o:List Dim} (ok:OutOk o):∀ d∈o,0 < d.members.length:=fun d hd=>by have:=(ok.dims d hd).len;omega
def EntsOk.len {o:List Dim} {l:List Entry} (h:EntsOk o l):l.length<=20736:=by have hz:=h.out.sizeN.2;have hnd:(l.map fun e=>dG o e.at_).Nodup:=(by have:l.Pairwise fun a b=>dG o a.at_≠dG o b.at_:=(by refine List.Pairwise.imp_of_mem (fun {a b} ha hb ll he => ?_) h.ris;have e1:=lQ h.out.pos (h.fit a ha);have e2:=lQ h.out.pos (h.fit b hb);rw[he,e2] at e1;have:b.at_=a.at_:=(Prod.mk.inj e1).1;rw[this,jf] at ll;omega);exact Dh.2 this);have:=nodup_lt (sizeN o) _ hnd fun x hx=>(by obtain ⟨e,he,rfl⟩:=Al.1 hx;exact lD (h.fit e he));rw[Ap] at this;omega
def EntsOk.gd {o:List Dim} {l:List Entry} (h:EntsOk o l) (hd:∀ d∈o,d.members.length<=1000):Lst Entry.gd l:=by
 have hl:=h.len;refine ⟨by omega,fun e he => ?_⟩;have hf:=h.fit e he;have fN:=h.out.len;have hv:=h.val e he;refine ⟨⟨by have:=hf.len;omega,fun x hx => ?_⟩, ?_⟩
 ·have hg:∀ {o:List Dim} {p:List Int},Fit o p->(∀ d∈o,d.members.length<=1000)->∀ x∈p,0<=x∧x < 1000:=by
   intro o
   induction o with
   | nil =>intro p hf _ x hx;have:=hf.len;rw[Bu this] at hx;cases hx
   | cons d o ih =>
    intro p hf hd x hx;cases p with
    | nil=>cases hx
    | cons m p =>
     obtain ⟨h1,h2⟩:=hf.tail;have mf:=hd d Ai;rcases Ar.1 hx with rfl | hx
     ·omega
     ·exact ih h2 (fun d n6=>hd d (Ae _ n6)) x hx
  have:=hg hf hd x hx
  constructor<;>omega
 ·simp only[wS,Am,decide_eq_true_eq] at hv
  constructor<;>omega
def OutOk.dm {o:List Dim} (ok:OutOk o):∀ d∈o,d.members.length<=1000:=fun d hd=>by have:=(ok.dims d hd).len;omega
def half_eq {x:Nat} (h:x < 18446744073709551616):wi (IntKind.wrap .u64 (wi ((x:Nat):Int)) / 2)=((x / 2:Nat):Int):=by have e:IntKind.wrap .u64 (wi ((x:Nat):Int))=(x:Int):=(by simp[wi,IntKind.wrap,IntKind.bits,IntKind.signed];omega);rw[e,zN (by omega) (by omega)];omega
def P80_eq {l:List Entry} {p:List Int} (hr:Ris l) (hl:Lst Entry.gd l) (hp:p.length<=9223372036854775807):zjH l ⟨p,0⟩=some ((yW l p:Int),zhk l p):=by
 have hlen:=hl.1;have loop:∀ (n i j:Nat),j - i=n->i<=yW l p->yW l p<=j->j<=l.length->lpO (yk P61 l ⟨p,0⟩) ((i:Int),(j:Int))=some (.inl ((yW l p:Int),(yW l p:Int))):=by
  intro n
  induction n using Nat.strongRecOn with
  | _ n ih =>
   intro i j hn h1 h2 h3;by_cases iI:i < j
   ·have e1:(i:Int) < (j:Int):=by omega
    have hm:(i+j) / 2 < l.length:=by omega
    have ee:=Aa hm;have hg:=hl.2 _ (Az hm);have hc:=loc_lt p hr _ _ ee;have hh:wi (IntKind.wrap .u64 (wi ((i:Int)+(j:Int))) / 2)=(((i+j) / 2:Nat):Int):=by
     have:=half_eq (x:=i+j) (by omega)
     rwa [Cx] at this
    by_cases c:cmpL l[(i+j) / 2].at_ p < 0
    ·have hB:yk P61 l ⟨p,0⟩ ((i:Int),(j:Int))=some (.nx ((((i+j) / 2+1:Nat):Int),(j:Int))):=(by simp only[yk,e1,decide_true,zh,hh,zi,ee,zj,zjI _ _ hg.1.1,c,zA,zV,j9];rw[zN (by omega) (by omega)];rfl);rw[z8 hB];have:=hc.1 c;exact ih (j - ((i+j) / 2+1)) (by omega) _ _ rfl (by omega) h2 h3
    ·have hB:yk P61 l ⟨p,0⟩ ((i:Int),(j:Int))=some (.nx ((i:Int),(((i+j) / 2:Nat):Int))):=(by simp only[yk,e1,decide_true,zh,hh,zi,ee,zj,zjI _ _ hg.1.1,c,decide_false,za,zA,zV,j9]);rw[z8 hB];have:¬ (i+j) / 2 < yW l p:=fun h=>c (hc.2 h);exact ih ((i+j) / 2 - i) (by omega) _ _ rfl h1 (by omega) (by omega)
   ·have hi:i=yW l p:=by omega
    have hj:j=yW l p:=by omega
    rw[zE (y:=((i:Int),(j:Int)))]
    ·rw[hi,hj]
    ·have e1:¬ (i:Int) < (j:Int):=by omega
     simp[yk,e1]
 have hL:=loop l.length 0 l.length (by omega) (BE _) (loc_le l p) (AF _);simp only[zjH,S80_61,z7];rw[show ((0:Int),((l.length:Nat):Int))=(((0:Nat):Int),((l.length:Nat):Int)) from rfl,hL];simp only[zV];rw[zfQ];by_cases c:yW l p < l.length
 ·have e1:((yW l p:Nat):Int) < ((l.length:Nat):Int):=by omega
  have ee:=Aa c;have hg:=hl.2 _ (Az c);simp only[e1,decide_true,zh,zi,ee,zj,zjI _ _ hg.1.1,zA,zV]
 ·have e1:¬ ((yW l p:Nat):Int) < ((l.length:Nat):Int):=by omega
  have ee:l[yW l p]? = none:=Bo (by omega);simp[e1,ee]
def P73_eq {l:List Entry} {p:List Int} (hr:Ris l) (hl:Lst Entry.gd l) (hp:p.length<=9223372036854775807):P73 l p=some ((yW l p:Int),zhk l p):=by simp[P73,S73,P80_eq hr hl hp]
def cellL:Option Int->Cell
 | some n=>⟨1,n⟩
 | none=>⟨0,0⟩
def P57_eq {l:List Entry} {p:List Int} (hr:Ris l) (hl:Lst Entry.gd l) (hp:p.length<=9223372036854775807):P57 l p=some (cellL (zcM l p)):=by
 simp only[P57,S57,P73_eq hr hl hp,zj];rw[get_has];cases h:zhk l p with
 | false=>simp[cellL]
 | true =>
  rw[zfQ] at h;split at h
  ·rename_i e he;simp[zi,he,cellL]
  ·cases h
def doL (o:List Dim) (l:List Entry) (e:Edit):List Entry×Int :=
 if jB o e.at_=0 then
  if e.clear=true then (if zhk l e.at_=true then (eraL l e.at_,0) else ([],5))
  else if yw o e.at_=false then ([],6) else if wS e.n=false then ([],1) else (zfz l e.at_ e.n,0)
 else ([],jB o e.at_)
def mE {α:Type} {xs:List α} (h:xs.length<=zP):zex xs=some xs:=by simp[zex,h]
def P71_eq {o:List Dim} {l:List Entry} {e:Edit} (ok:EntsOk o l) (he:e.at_.length<=9223372036854775807):P71 o l e=some ((doL o l e).1,zk (doL o l e).2):=by
 have hl:=ok.gd ok.out.dm;have hlen:=ok.len;have fN:=ok.out.len;simp only[P71,S71,zjJ o e.at_ he,zj,zt];unfold doL;by_cases c1:jB o e.at_=0
 case neg=>simp[c1]
 have hf:=ye.1 c1;have mc:=hf.len;simp only[c1,decide_true,AU,za,if_true,P73_eq ok.ris hl he,zj];have hloc:=loc_le l e.at_;have aV:wi (((yW l e.at_:Nat):Int)+1)=((yW l e.at_+1:Nat):Int):=by rw[zN (by omega) (by omega)];omega
 have al:zhk l e.at_=true->yW l e.at_ < l.length∧∃ e0,l[yW l e.at_]? = some e0∧e0.at_=e.at_:=fun h=>by
  rw[zfQ] at h;split at h
  ·rename_i e0 fw;exact ⟨(Ac.1 fw).1,e0,fw,cmpL_eq (of_decide_eq_true h)⟩
  ·cases h
 cases c2:e.clear with
 | true =>
  cases c3:zhk l e.at_ with
  | false=>simp[zk]
  | true =>have oG:P77 l ((yW l e.at_:Nat):Int) ((yW l e.at_+1:Nat):Int)=some (eraL l e.at_):=(by unfold P77;have:=(al c3).1;rw[era_at l e.at_ c3,zC (by omega)];simp);simp[aV,zk];rw[show ((yW l e.at_:Nat):Int)+1=((yW l e.at_+1:Nat):Int) by omega,oG];rfl
 | false =>
  simp only[Ao,if_false,za,zA,zV,P59_eq hf he ok.out.dm,zj];cases c3:yw o e.at_ with
  | false=>simp[zk]
  | true =>
   simp only[AU,za,P60_eq,zj];cases c4:wS e.n with
   | false=>simp[zk]
   | true =>
    simp only[AU,za];rw[put_at];cases c5:zhk l e.at_ with
    | true =>
     obtain ⟨h1,e0,h2,h3⟩:=al c5;have cd:0<=((yW l e.at_:Nat):Int)∧((yW l e.at_:Nat):Int) < ((l.length:Nat):Int):=by omega
     simp only[zh,zC cd,AH,h2,zj,h3];simp[zk,List.set_eq_take_append_cons_drop,h1]
    | false =>have oI:P76s e.at_=some e.at_:=mE (by unfold zP;omega);simp only[za,oI,zj];have oF:P78 l ((yW l e.at_:Nat):Int) [⟨e.at_,e.n⟩]=some (l.take (yW l e.at_)++⟨e.at_,e.n⟩ :: l.drop (yW l e.at_)):=(by unfold P78;rw[zC (by unfold zgP;simp;omega)];simp);rw[oF];simp[zk]
def P72_eq {l:List Entry} (hl:l.length<=zP) (hp:∀ e∈l,e.at_.length<=zP):P72 l=some l:=by
 have h79:P79 l=some l:=mE hl;simp only[P72,S72,h79,zj,z7];have hs:=qe (B:=zfi P76s l) (fun i=>((i:Int),l)) l.length (fun i hi=>by
  have e:((i:Nat):Int) < ((l.length:Nat):Int):=by omega
  have cd:0<=((i:Nat):Int)∧((i:Nat):Int) < ((l.length:Nat):Int):=by omega
  have ee:=Aa hi;have oI:P76s l[i].at_=some l[i].at_:=mE (hp _ (Az hi));have an:l.length<=6000000000000:=hl;simp only[zfi,e,decide_true,zh,zC cd,AH,ee,zj,oI,j9];rw[zN (by omega) (by omega)];have:l.set i ⟨l[i].at_,l[i].n⟩=l:=(by rw[show (⟨l[i].at_,l[i].n⟩:Entry)=l[i] from rfl];exact List.set_getElem_self hi);rw[this]
  rfl)
 have e0:lpO (zfi P76s l) (0,l)=lpO (zfi P76s l) ((l.length:Int),l):=hs;rw[e0,zE (y:=((l.length:Int),l)) (by simp[zfi])];rfl
end
section
section
variable (o:List Dim) (dim:Nat) (ms:List Member)
end
section
variable {o:List Dim} {dim:Nat} {d:Dim}
variable (ok:OutOk o) (hd:o[dim]? = some d)
include ok hd
end
section
variable {o:List Dim} {dim:Nat} {ms:List Member}
end
end
end Ab
