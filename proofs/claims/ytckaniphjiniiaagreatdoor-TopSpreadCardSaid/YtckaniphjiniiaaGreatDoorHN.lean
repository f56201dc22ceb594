import Derived.Test.YtckaniphjiniiaaGreatDoorH1
import Derived.Test.YtckaniphjiniiaaGreatDoorH2
set_option linter.all false
namespace Ab
open Go
section
def qM:∀a:List Int,cmpL a a=0
 | []=>rfl
 | x::a=>by simp[cmpL,qM a]
def zcb:∀a b:List Int,cmpL b a = - cmpL a b
 | [],[]=>rfl
 | [],_::_=>rfl
 | _::_,[]=>rfl
 | x::a,y::b=>by
  simp only[cmpL];by_cases h1:x<y
  ·have h2:¬y<x:=by omega
   simp[h1,h2]
  ·by_cases h2:y<x
   ·simp[h1,h2]
   ·simp[h1,h2,zcb a b]
def cmpL_eq:∀ {a b:List Int},cmpL a b=0->a=b
 | [],[],_=>rfl
 | [],_::_,h=>by simp[cmpL] at h
 | _::_,[],h=>by simp[cmpL] at h
 | x::a,y::b,h=>by
  simp only[cmpL] at h;by_cases h1:x<y
  ·simp[h1] at h
  ·by_cases h2:y<x
   ·simp[h1,h2] at h
   ·simp only[h1,h2,if_false] at h;rw[cmpL_eq h,show x=y by omega]
def jD:∀ {a b c:List Int},cmpL a b<0->cmpL b c<0->cmpL a c<0
 | [],[],_,h,_=>by simp[cmpL] at h
 | [],_::_,[],_,k=>by simp[cmpL] at k
 | [],_::_,_::_,_,_=>by simp[cmpL]
 | _::_,[],_,h,_=>by simp[cmpL] at h
 | _::_,_::_,[],_,k=>by simp[cmpL] at k
 | x::a,y::b,z::c,h,k=>by
  simp only[cmpL] at h k ⊢;by_cases h1:x<y
  ·by_cases k1:y<z
   ·have:x<z:=by omega
    simp[this]
   ·by_cases k2:z<y
    ·simp[k1,k2] at k
    ·have:x<z:=by omega
     simp[this]
  ·by_cases h2:y<x
   ·simp[h1,h2] at h
   ·simp only[h1,h2,if_false] at h;have tl:x=y:=by omega
    subst tl;by_cases k1:x<z
    ·simp[k1]
    ·by_cases k2:z<x
     ·simp[k1,k2] at k
     ·simp only[k1,k2,if_false] at k ⊢;exact jD h k
def zdO {a b:List Int} (h:¬cmpL a b<0) (h0:¬cmpL a b=0):cmpL b a<0:=by rw[zcb a b];omega
def Ris (l:List Entry):Prop:=l.Pairwise fun a b=>cmpL a.at_ b.at_<0
def mU:∀ {l:List Entry},(∀(i:Nat) (a b:Entry),l[i]? = some a->l[i+1]? = some b->cmpL a.at_ b.at_<0)->Ris l
 | [],_=>.nil
 | [a],_=>.cons (by simp) .nil
 | a::b::l,h=>by
  have ih:Ris (b::l):=mU fun i x y hx hy=>h (i+1) x y hx hy;have gh:=h 0 a b rfl rfl;refine .cons (fun x hx => ?_) ih;rcases Ar.1 hx with rfl|hx
  ·exact gh
  ·exact jD gh (CZ ih hx)
def Ris.rise {l:List Entry} (h:Ris l) (i:Nat) (a b:Entry) (ha:l[i]? = some a) (hb:l[i+1]? = some b):cmpL a.at_ b.at_<0:=by obtain⟨h1,rfl⟩:=Ac.1 ha;obtain⟨h2,rfl⟩:=Ac.1 hb;exact Cw.1 h i (i+1) h1 h2 (by omega)
def EntsOk.ris {o:List Dim} {l:List Entry} (h:EntsOk o l):Ris l:=mU h.rise
def wD:List Entry->List Int->Nat
 | [],_=>0
 | e::l,p=>if cmpL e.at_ p<0 then wD l p+1 else 0
def ziP:List Entry->List Int->Bool
 | [],_=>false
 | e::l,p=>if cmpL e.at_ p<0 then ziP l p else decide (cmpL e.at_ p=0)
def bB:List Entry->List Int->Option Int
 | [],_=>none
 | e::l,p=>if cmpL e.at_ p<0 then bB l p else if cmpL e.at_ p=0 then some e.n else none
def zgN:List Entry->List Int->Int->List Entry
 | [],p,n=>[⟨p,n⟩]
 | e::l,p,n=>if cmpL e.at_ p<0 then e::zgN l p n else if cmpL e.at_ p=0 then ⟨p,n⟩::l else ⟨p,n⟩::e::l
def eraL:List Entry->List Int->List Entry
 | [],_=>[]
 | e::l,p=>if cmpL e.at_ p<0 then e::eraL l p else if cmpL e.at_ p=0 then l else e::l
def loc_le:∀(l:List Entry) (p:List Int),wD l p<=l.length
 | [],_=>Az _
 | e::l,p=>by
  have:=loc_le l p;simp only[wD,Ax]
  split<;>omega
def loc_lt:∀ {l:List Entry} (p:List Int),Ris l->∀(i:Nat) (e:Entry),l[i]? = some e->(cmpL e.at_ p<0↔i<wD l p)
 | [],p,_,i,e,h=>by cases h
 | a::l,p,hr,i,e,h=>by
  have bO:=Br.1 hr;simp only[wD];cases i with
  | zero =>cases h;by_cases c:cmpL a.at_ p<0<;>simp[c]
  | succ i =>
   have ih:=loc_lt p bO.2 i e (by simpa using h);by_cases c:cmpL a.at_ p<0
   ·simp[c,ih]
   ·have hae:=bO.1 e (Ae (by simpa using h));have:¬cmpL e.at_ p<0:=fun h2=>c (jD hae h2);simp[c,this]
def mW:∀(l:List Entry) (p:List Int),ziP l p=(match l[wD l p]? with|some e=>decide (cmpL e.at_ p=0)|none=>false)
 | [],p=>rfl
 | e::l,p=>by
  simp only[ziP,wD];by_cases c:cmpL e.at_ p<0
  ·simp only[c,if_true,A4];exact mW l p
  ·simp[c]
def get_has:∀(l:List Entry) (p:List Int),bB l p=if ziP l p=true then (l[wD l p]?).map (·.n) else none
 | [],p=>rfl
 | e::l,p=>by
  simp only[bB,ziP,wD];by_cases c:cmpL e.at_ p<0
  ·simp only[c,if_true,A4];exact get_has l p
  ·by_cases c0:cmpL e.at_ p=0<;>simp[c,c0]
def put_at:∀(l:List Entry) (p:List Int) (n:Int),zgN l p n=l.take (wD l p)++⟨p,n⟩::l.drop (if ziP l p=true then wD l p+1 else wD l p)
 | [],p,n=>rfl
 | e::l,p,n=>by
  simp only[zgN,wD,ziP];by_cases c:cmpL e.at_ p<0
  ·simp only[c,if_true,List.take_succ_cons,AK];rw[put_at l p n]
   split<;>simp
  ·by_cases c0:cmpL e.at_ p=0<;>simp[c,c0]
def era_at:∀(l:List Entry) (p:List Int),ziP l p=true->eraL l p=l.take (wD l p)++l.drop (wD l p+1)
 | [],p,h=>by cases h
 | e::l,p,h=>by
  simp only[eraL,wD,ziP] at h ⊢;by_cases c:cmpL e.at_ p<0
  ·simp only[c,if_true] at h ⊢;rw[era_at l p h];simp
  ·simp only[c,if_false,decide_eq_true_eq] at h;simp[c,h]
def zeg:∀ {l:List Entry} {p:List Int} {n:Int} {e:Entry},e∈zgN l p n->e=⟨p,n⟩∨e∈l
 | [],p,n,e,h=>.inl (by simpa[zgN] using h)
 | a::l,p,n,e,h=>by
  simp only[zgN] at h;split at h
  ·rcases Ar.1 h with h|h
   ·exact .inr (h▸Ak)
   ·exact (zeg h).imp id (Ad _)
  ·split at h
   ·exact (Ar.1 h).imp id (Ad _)
   ·exact Ar.1 h
def zeJ:∀ {l:List Entry} {p:List Int} {e:Entry},e∈eraL l p->e∈l
 | [],p,e,h=>h
 | a::l,p,e,h=>by
  simp only[eraL] at h;split at h
  ·rcases Ar.1 h with h|h
   ·exact h▸Ak
   ·exact Ad _ (zeJ h)
  ·split at h
   ·exact Ad _ h
   ·exact h
def put_ris:∀ {l:List Entry} (p:List Int) (n:Int),Ris l->Ris (zgN l p n)
 | [],p,n,_=>.cons (by simp) .nil
 | a::l,p,n,h=>by
  have h':=Br.1 h;simp only[zgN];by_cases c:cmpL a.at_ p<0
  ·rw[if_pos c];refine .cons (fun x hx => ?_) (put_ris p n h'.2);rcases zeg hx with rfl|hx
   ·exact c
   ·exact h'.1 x hx
  ·rw[if_neg c];by_cases c0:cmpL a.at_ p=0
   ·rw[if_pos c0];have:=cmpL_eq c0;subst this;exact .cons h'.1 h'.2
   ·rw[if_neg c0];have nH:=zdO c c0;refine .cons (fun x hx => ?_) h;rcases Ar.1 hx with rfl|hx
    ·exact nH
    ·exact jD nH (h'.1 x hx)
def era_ris:∀ {l:List Entry} (p:List Int),Ris l->Ris (eraL l p)
 | [],p,_=>.nil
 | a::l,p,h=>by
  have h':=Br.1 h;simp only[eraL];split
  ·exact .cons (fun x hx=>h'.1 x (zeJ hx)) (era_ris p h'.2)
  ·split
   ·exact h'.2
   ·exact h
def zdh:∀(l:List Entry) (p:List Int) (n:Int),bB (zgN l p n) p=some n
 | [],p,n=>by simp[zgN,bB,qM]
 | a::l,p,n=>by
  simp only[zgN];by_cases c:cmpL a.at_ p<0
  ·rw[if_pos c];simp only[bB,if_pos c];exact zdh l p n
  ·rw[if_neg c];by_cases c0:cmpL a.at_ p=0
   ·rw[if_pos c0];simp[bB,qM]
   ·rw[if_neg c0];simp[bB,qM]
def ta:∀(l:List Entry) {p q:List Int} (n:Int),p≠q->bB (zgN l p n) q=bB l q
 | [],p,q,n,h=>by
  have h0:¬cmpL p q=0:=fun e=>h (cmpL_eq e);simp[zgN,bB,h0]
 | a::l,p,q,n,h=>by
  have h0:¬cmpL p q=0:=fun e=>h (cmpL_eq e);simp only[zgN];by_cases c:cmpL a.at_ p<0
  ·rw[if_pos c];simp only[bB];rw[ta l n h]
  ·rw[if_neg c];by_cases c0:cmpL a.at_ p=0
   ·rw[if_pos c0];have:=cmpL_eq c0;subst this;simp[bB,h0]
   ·rw[if_neg c0];have nH:=zdO c c0;simp only[bB];by_cases k:cmpL p q<0
    ·rw[if_pos k]
    ·have hqp:=zdO k h0;have hqa:=jD hqp nH;have e1:¬cmpL a.at_ q<0:=by rw[zcb q a.at_];omega
     have e2:¬cmpL a.at_ q=0:=by rw[zcb q a.at_];omega
     simp[k,h0,e1,e2]
def EntsOk.put {o:List Dim} {l:List Entry} {p:List Int} {n:Int} (h:EntsOk o l) (hf:Fit o p) (hl:jX o p=true) (hv:jP n=true):EntsOk o (zgN l p n):=by
 refine⟨h.out,fun e he => ?_,fun e he => ?_,fun e he => ?_,(put_ris p n h.ris).rise⟩
 ·rcases zeg he with rfl|he
  ·exact hf
  ·exact h.fit e he
 ·rcases zeg he with rfl|he
  ·exact hl
  ·exact h.leaf e he
 ·rcases zeg he with rfl|he
  ·exact hv
  ·exact h.val e he
def EntsOk.era {o:List Dim} {l:List Entry} {p:List Int} (h:EntsOk o l):EntsOk o (eraL l p) :=
 ⟨h.out,fun e he=>h.fit e (zeJ he),fun e he=>h.leaf e (zeJ he),fun e he=>h.val e (zeJ he),(era_ris p h.ris).rise⟩
def nodup_lt:∀(n:Nat) (l:List Nat),l.Nodup->(∀x∈l,x<n)->l.length<=n:=by
 have sub:∀(l r:List Nat),l.Nodup->(∀x∈l,x∈r)->l.length<=r.length:=by
  intro l
  induction l with
  | nil=>intro r _ _;exact BM _
  | cons a l ih =>intro r hn h;have ha:=h a Ak;obtain⟨h1,h2⟩:=BS.1 hn;have:=ih (r.erase a) h2 fun x hx=>(Dt (show x≠a from fun e=>by subst e;exact h1 hx)).2 (h x (Ad _ hx));rw[Da ha] at this;have hr:0<r.length:=Dg ha;simp only[Ax];omega
 intro n l hn h;have:=sub l (List.range n) hn fun x hx=>AR.2 (h x hx);simpa using this
def OutOk.pos {o:List Dim} (ok:OutOk o):∀d∈o,0<d.members.length:=fun d hd=>by have:=(ok.dims d hd).len;omega
def EntsOk.len {o:List Dim} {l:List Entry} (h:EntsOk o l):l.length<=20736:=by have hz:=h.out.sizeN.2;have hnd:(l.map fun e=>zci o e.at_).Nodup:=(by have:l.Pairwise fun a b=>zci o a.at_≠zci o b.at_:=(by refine List.Pairwise.imp_of_mem (fun {a b} ha hb gh he => ?_) h.ris;have e1:=yd h.out.pos (h.fit a ha);have e2:=yd h.out.pos (h.fit b hb);rw[he,e2] at e1;have:b.at_=a.at_:=(Prod.mk.inj e1).1;rw[this,qM] at gh;omega);exact CA.2 this);have:=nodup_lt (sizeN o) _ hnd fun x hx=>(by obtain⟨e,he,rfl⟩:=Al.1 hx;exact zdc (h.fit e he));rw[Aq] at this;omega
def EntsOk.gd {o:List Dim} {l:List Entry} (h:EntsOk o l) (hd:∀d∈o,d.members.length<=1000):Lst Entry.gd l:=by
 have hl:=h.len;refine⟨by omega,fun e he => ?_⟩;have hf:=h.fit e he;have gz:=h.out.len;have hv:=h.val e he;refine⟨⟨by have:=hf.len;omega,fun x hx => ?_⟩, ?_⟩
 ·have hg:∀ {o:List Dim} {p:List Int},Fit o p->(∀d∈o,d.members.length<=1000)->∀x∈p,0<=x∧x<1000:=by
   intro o
   induction o with
   | nil =>intro p hf _ x hx;have:=hf.len;rw[BE this] at hx;cases hx
   | cons d o ih =>
    intro p hf hd x hx;cases p with
    | nil=>cases hx
    | cons m p =>
     obtain⟨h1,h2⟩:=hf.tail;have fA:=hd d Ak;rcases Ar.1 hx with rfl|hx
     ·omega
     ·exact ih h2 (fun d ka=>hd d (Ad _ ka)) x hx
  have:=hg hf hd x hx
  constructor<;>omega
 ·simp only[jP,Ai,decide_eq_true_eq] at hv
  constructor<;>omega
def OutOk.dm {o:List Dim} (ok:OutOk o):∀d∈o,d.members.length<=1000:=fun d hd=>by have:=(ok.dims d hd).len;omega
def half_eq {x:Nat} (h:x<18446744073709551616):wi (IntKind.wrap .u64 (wi ((x:Nat):Int))/2)=((x/2:Nat):Int):=by have e:IntKind.wrap .u64 (wi ((x:Nat):Int))=(x:Int):=(by simp[wi,IntKind.wrap,IntKind.bits,IntKind.signed];omega);rw[e,zR (by omega) (by omega)];omega
def P80_eq {l:List Entry} {p:List Int} (hr:Ris l) (hl:Lst Entry.gd l) (hp:p.length<=9223372036854775807):zlS l ⟨p,0⟩=some ((wD l p:Int),ziP l p):=by
 have hlen:=hl.1;have loop:∀(n i j:Nat),j-i=n->i<=wD l p->wD l p<=j->j<=l.length->lpO (yI P61 l ⟨p,0⟩) ((i:Int),(j:Int))=some (.inl ((wD l p:Int),(wD l p:Int))):=by
  intro n
  induction n using Nat.strongRecOn with
  | _ n ih =>
   intro i j hn h1 h2 h3;by_cases ld:i<j
   ·have e1:(i:Int)<(j:Int):=by omega
    have hm:(i+j)/2<l.length:=by omega
    have ee:=Aa hm;have hg:=hl.2 _ (Ay hm);have hc:=loc_lt p hr _ _ ee;have hh:wi (IntKind.wrap .u64 (wi ((i:Int)+(j:Int)))/2)=(((i+j)/2:Nat):Int):=by
     have:=half_eq (x:=i+j) (by omega)
     rwa [CN] at this
    by_cases c:cmpL l[(i+j)/2].at_ p<0
    ·have hB:yI P61 l ⟨p,0⟩ ((i:Int),(j:Int))=some (.nx ((((i+j)/2+1:Nat):Int),(j:Int))):=(by simp only[yI,e1,decide_true,ze,hh,zg,ee,zj,zlU _ _ hg.1.1,c,zx,zY,ji];rw[zR (by omega) (by omega)];rfl);rw[qh hB];have:=hc.1 c;exact ih (j-((i+j)/2+1)) (by omega) _ _ rfl (by omega) h2 h3
    ·have hB:yI P61 l ⟨p,0⟩ ((i:Int),(j:Int))=some (.nx ((i:Int),(((i+j)/2:Nat):Int))):=(by simp only[yI,e1,decide_true,ze,hh,zg,ee,zj,zlU _ _ hg.1.1,c,decide_false,za,zx,zY,ji]);rw[qh hB];have:¬(i+j)/2<wD l p:=fun h=>c (hc.2 h);exact ih ((i+j)/2-i) (by omega) _ _ rfl h1 (by omega) (by omega)
   ·have hi:i=wD l p:=by omega
    have hj:j=wD l p:=by omega
    rw[zF (y:=((i:Int),(j:Int)))]
    ·rw[hi,hj]
    ·have e1:¬(i:Int)<(j:Int):=by omega
     simp[yI,e1]
 have hL:=loop l.length 0 l.length (by omega) (BM _) (loc_le l p) (Az _);simp only[zlS,S80_61,zW];rw[show ((0:Int),((l.length:Nat):Int))=(((0:Nat):Int),((l.length:Nat):Int)) from rfl,hL];simp only[zY];rw[mW];by_cases c:wD l p<l.length
 ·have e1:((wD l p:Nat):Int)<((l.length:Nat):Int):=by omega
  have ee:=Aa c;have hg:=hl.2 _ (Ay c);simp only[e1,decide_true,ze,zg,ee,zj,zlU _ _ hg.1.1,zx,zY]
 ·have e1:¬((wD l p:Nat):Int)<((l.length:Nat):Int):=by omega
  have ee:l[wD l p]? = none:=Bu (by omega);simp[e1,ee]
def P73_eq {l:List Entry} {p:List Int} (hr:Ris l) (hl:Lst Entry.gd l) (hp:p.length<=9223372036854775807):P73 l p=some ((wD l p:Int),ziP l p):=by simp[P73,S73,P80_eq hr hl hp]
def zkq:Option Int->Cell
 | some n=>⟨1,n⟩
 | none=>⟨0,0⟩
def P57_eq {l:List Entry} {p:List Int} (hr:Ris l) (hl:Lst Entry.gd l) (hp:p.length<=9223372036854775807):P57 l p=some (zkq (bB l p)):=by
 simp only[P57,S57,P73_eq hr hl hp,zj];rw[get_has];cases h:ziP l p with
 | false=>simp[zkq]
 | true =>
  rw[mW] at h;split at h
  ·rename_i e he;simp[zg,he,zkq]
  ·cases h
def doL (o:List Dim) (l:List Entry) (e:Edit):List Entry×Int :=
 if jv o e.at_=0 then
  if e.clear=true then (if ziP l e.at_=true then (eraL l e.at_,0) else ([],5))
  else if jX o e.at_=false then ([],6) else if jP e.n=false then ([],1) else (zgN l e.at_ e.n,0)
 else ([],jv o e.at_)
def zbv {α:Type} {xs:List α} (h:xs.length<=zC):zbl xs=some xs:=by simp[zbl,h]
def P71_eq {o:List Dim} {l:List Entry} {e:Edit} (ok:EntsOk o l) (he:e.at_.length<=9223372036854775807):P71 o l e=some ((doL o l e).1,zn (doL o l e).2):=by
 have hl:=ok.gd ok.out.dm;have hlen:=ok.len;have gz:=ok.out.len;simp only[P71,S71,zjo o e.at_ he,zj,zB];unfold doL;by_cases c1:jv o e.at_=0
 case neg=>simp[c1]
 have hf:=jB.1 c1;have lj:=hf.len;simp only[c1,decide_true,AW,za,if_true,P73_eq ok.ris hl he,zj];have hloc:=loc_le l e.at_;have bh:wi (((wD l e.at_:Nat):Int)+1)=((wD l e.at_+1:Nat):Int):=by rw[zR (by omega) (by omega)];omega
 have aj:ziP l e.at_=true->wD l e.at_<l.length∧∃e0,l[wD l e.at_]? = some e0∧e0.at_=e.at_:=fun h=>by
  rw[mW] at h;split at h
  ·rename_i e0 gB;exact⟨(Ac.1 gB).1,e0,gB,cmpL_eq (of_decide_eq_true h)⟩
  ·cases h
 cases c2:e.clear with
 | true =>
  cases c3:ziP l e.at_ with
  | false=>simp[zn]
  | true =>have rQ:P77 l ((wD l e.at_:Nat):Int) ((wD l e.at_+1:Nat):Int)=some (eraL l e.at_):=(by unfold P77;have:=(aj c3).1;rw[era_at l e.at_ c3,zm (by omega)];simp);simp[bh,zn];rw[show ((wD l e.at_:Nat):Int)+1=((wD l e.at_+1:Nat):Int) by omega,rQ];rfl
 | false =>
  simp only[Au,if_false,za,zx,zY,P59_eq hf he ok.out.dm,zj];cases c3:jX o e.at_ with
  | false=>simp[zn]
  | true =>
   simp only[AW,za,P60_eq,zj];cases c4:jP e.n with
   | false=>simp[zn]
   | true =>
    simp only[AW,za];rw[put_at];cases c5:ziP l e.at_ with
    | true =>
     obtain⟨h1,e0,h2,h3⟩:=aj c5;have bd:0<=((wD l e.at_:Nat):Int)∧((wD l e.at_:Nat):Int)<((l.length:Nat):Int):=by omega
     simp only[ze,zm bd,Ap,h2,zj,h3];simp[zn,List.set_eq_take_append_cons_drop,h1]
    | false =>have rT:P76s e.at_=some e.at_:=zbv (by unfold zC;omega);simp only[za,rT,zj];have rP:P78 l ((wD l e.at_:Nat):Int) [⟨e.at_,e.n⟩]=some (l.take (wD l e.at_)++⟨e.at_,e.n⟩::l.drop (wD l e.at_)):=(by unfold P78;rw[zm (by unfold zie;simp;omega)];simp);rw[rP];simp[zn]
def P72_eq {l:List Entry} (hl:l.length<=zC) (hp:∀e∈l,e.at_.length<=zC):P72 l=some l:=by
 have h79:P79 l=some l:=zbv hl;simp only[P72,S72,h79,zj,zW];have hs:=zP (B:=zgk P76s l) (fun i=>((i:Int),l)) l.length (fun i hi=>by
  have e:((i:Nat):Int)<((l.length:Nat):Int):=by omega
  have bd:0<=((i:Nat):Int)∧((i:Nat):Int)<((l.length:Nat):Int):=by omega
  have ee:=Aa hi;have rT:P76s l[i].at_=some l[i].at_:=zbv (hp _ (Ay hi));have aq:l.length<=6000000000000:=hl;simp only[zgk,e,decide_true,ze,zm bd,Ap,ee,zj,rT,ji];rw[zR (by omega) (by omega)];have:l.set i ⟨l[i].at_,l[i].n⟩=l:=(by rw[show (⟨l[i].at_,l[i].n⟩:Entry)=l[i] from rfl];exact Dl hi);rw[this]
  rfl)
 have e0:lpO (zgk P76s l) (0,l)=lpO (zgk P76s l) ((l.length:Int),l):=hs;rw[e0,zF (y:=((l.length:Int),l)) (by simp[zgk])];rfl
end
section
def PClone_eq {α:Type} {xs:List α} (h:xs.length<=1000000):zbl xs=some xs:=by unfold zbl;rw[zm (by unfold zC;omega)]
def zlT (p:List Int) (dim:Nat) (k:Int) (h1:dim<p.length) (hl:p.length<=1000):P70 p (dim:Int) k=some (p.set dim k):=by
 have e:P76 p=some p:=PClone_eq (by omega);have hd:(0:Int)<=(dim:Int)∧(dim:Int)<((p.length:Nat):Int):=by omega
 simp only[P70,S70,e,zj,zm hd,Ap,Aa h1]
def sk {l:List Member} (h:Rooted l) {i x:Int} (hx:x∈partsOf l i):i<x∧0<=x∧x<l.length:=by obtain⟨k,rfl,h1,h2⟩:=zgZ.1 hx;unfold zez at h2;rw[Aa h1] at h2;simp only[decide_eq_true_eq] at h2;have:=h.up k _ (Aa h1);omega
section
variable (o:List Dim) (dim:Nat) (ms:List Member)
def idxK (n:Nat) (k:Int):Nat:=zci o ((jw o n).1.set dim k)
def comb1 (cs:List Cell) (n:Nat) (c:Cell) (k:Int):Cell:=if sgn ms k=0 then c else zbb c (cs.getD (idxK o dim n k) ⟨0,0⟩) (sgn ms k)
end
section
variable {o:List Dim} {dim:Nat} {d:Dim}
variable (ok:OutOk o) (hd:o[dim]? = some d)
include ok hd
def rooted_d:Rooted d.members:=(ok.dims d (Ae hd)).rooted
end
section
variable {o:List Dim} {dim:Nat} {ms:List Member}
end
end
end Ab
