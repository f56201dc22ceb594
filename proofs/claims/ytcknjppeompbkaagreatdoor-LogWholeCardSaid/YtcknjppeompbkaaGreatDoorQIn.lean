/-
  Plain laws: what is found, written and cleared in entries that are right.
-/
import Derived.Test.YtcknjppeompbkaaGreatDoorK18
set_option linter.all false
namespace Ab
open Go
def zgj:∀ a:List Int,cmpL a a=0
 | []=>rfl
 | x :: a=>by simp[cmpL,zgj a]
def zgi:∀ a b:List Int,cmpL b a = - cmpL a b
 | [],[]=>rfl
 | [],_ :: _=>rfl
 | _ :: _,[]=>rfl
 | x :: a,y :: b=>by
  simp only[cmpL];by_cases h1:x < y
  ·have h2:¬ y < x:=by omega
   simp[h1,h2]
  ·by_cases h2:y < x
   ·simp[h1,h2]
   ·simp[h1,h2,zgi a b]
def cmpL_eq:∀ {a b:List Int},cmpL a b=0->a=b
 | [],[],_=>rfl
 | [],_ :: _,h=>by simp[cmpL] at h
 | _ :: _,[],h=>by simp[cmpL] at h
 | x :: a,y :: b,h=>by
  simp only[cmpL] at h;by_cases h1:x < y
  ·simp[h1] at h
  ·by_cases h2:y < x
   ·simp[h1,h2] at h
   ·simp only[h1,h2,if_false] at h;rw[cmpL_eq h,show x=y by omega]
def zad:∀ {a b c:List Int},cmpL a b < 0->cmpL b c < 0->cmpL a c < 0
 | [],[],_,h,_=>by simp[cmpL] at h
 | [],_ :: _,[],_,k=>by simp[cmpL] at k
 | [],_ :: _,_ :: _,_,_=>by simp[cmpL]
 | _ :: _,[],_,h,_=>by simp[cmpL] at h
 | _ :: _,_ :: _,[],_,k=>by simp[cmpL] at k
 | x :: a,y :: b,z :: c,h,k=>by
  simp only[cmpL] at h k ⊢;by_cases h1:x < y
  ·by_cases k1:y < z
   ·have:x < z:=by omega
    simp[this]
   ·by_cases k2:z < y
    ·simp[k1,k2] at k
    ·have:x < z:=by omega
     simp[this]
  ·by_cases h2:y < x
   ·simp[h1,h2] at h
   ·simp only[h1,h2,if_false] at h;have hxy:x=y:=by omega
    subst hxy;by_cases k1:x < z
    ·simp[k1]
    ·by_cases k2:z < x
     ·simp[k1,k2] at k
     ·simp only[k1,k2,if_false] at k ⊢;exact zad h k
def cmpL_neg {a b:List Int} (h:¬ cmpL a b < 0) (h0:¬ cmpL a b=0):cmpL b a < 0:=by rw[zgi a b];omega
def Ris (l:List Entry):Prop:=l.Pairwise fun a b=>cmpL a.at_ b.at_ < 0
def ris_of:∀ {l:List Entry},(∀ (i:Nat) (a b:Entry),l[i]? = some a->l[i+1]? = some b->cmpL a.at_ b.at_ < 0)->Ris l
 | [],_=>.nil
 | [a],_=>.cons (by simp) .nil
 | a :: b :: l,h=>by
  have ih:Ris (b :: l):=ris_of fun i x y hx hy=>h (i+1) x y hx hy;have lg:=h 0 a b rfl rfl;refine .cons (fun x hx => ?_) ih;rcases Aq.1 hx with rfl | hx
  ·exact lg
  ·exact zad lg (Ca ih hx)
def Ris.rise {l:List Entry} (h:Ris l) (i:Nat) (a b:Entry) (ha:l[i]? = some a) (hb:l[i+1]? = some b):cmpL a.at_ b.at_ < 0:=by obtain ⟨h1,rfl⟩:=Aa.1 ha;obtain ⟨h2,rfl⟩:=Aa.1 hb;exact List.pairwise_iff_getElem.1 h i (i+1) h1 h2 (by omega)
def EntsOk.ris {o:List Dim} {l:List Entry} (h:EntsOk o l):Ris l:=ris_of h.rise
def yQ:List Entry->List Int->Nat
 | [],_=>0
 | e :: l,p=>if cmpL e.at_ p < 0 then yQ l p+1 else 0
def dA:List Entry->List Int->Bool
 | [],_=>false
 | e :: l,p=>if cmpL e.at_ p < 0 then dA l p else decide (cmpL e.at_ p=0)
def putL:List Entry->List Int->Int->List Entry
 | [],p,n=>[⟨p,n⟩]
 | e :: l,p,n=>if cmpL e.at_ p < 0 then e :: putL l p n else if cmpL e.at_ p=0 then ⟨p,n⟩ :: l else ⟨p,n⟩ :: e :: l
def eraL:List Entry->List Int->List Entry
 | [],_=>[]
 | e :: l,p=>if cmpL e.at_ p < 0 then e :: eraL l p else if cmpL e.at_ p=0 then l else e :: l
def loc_le:∀ (l:List Entry) (p:List Int),yQ l p<=l.length
 | [],_=>AO _
 | e :: l,p=>by
  have:=loc_le l p;simp only[yQ,AK]
  split<;>omega
def loc_lt:∀ {l:List Entry} (p:List Int),Ris l->∀ (i:Nat) (e:Entry),l[i]? = some e->(cmpL e.at_ p < 0↔i < yQ l p)
 | [],p,_,i,e,h=>by cases h
 | a :: l,p,hr,i,e,h=>by
  have bI:=B8.1 hr;simp only[yQ];cases i with
  | zero =>cases h;by_cases c:cmpL a.at_ p < 0<;>simp[c]
  | succ i =>
   have ih:=loc_lt p bI.2 i e (by simpa using h);by_cases c:cmpL a.at_ p < 0
   ·simp[c,ih]
   ·have hae:=bI.1 e (Ae (by simpa using h));have:¬ cmpL e.at_ p < 0:=fun h2=>c (zad hae h2);simp[c,this]
def lq:∀ (l:List Entry) (p:List Int),dA l p=(match l[yQ l p]? with | some e=>decide (cmpL e.at_ p=0) | none=>false)
 | [],p=>rfl
 | e :: l,p=>by
  simp only[dA,yQ];by_cases c:cmpL e.at_ p < 0
  ·simp only[c,if_true,AN];exact lq l p
  ·simp[c]
def put_at:∀ (l:List Entry) (p:List Int) (n:Int),putL l p n=l.take (yQ l p)++⟨p,n⟩ :: l.drop (if dA l p=true then yQ l p+1 else yQ l p)
 | [],p,n=>rfl
 | e :: l,p,n=>by
  simp only[putL,yQ,dA];by_cases c:cmpL e.at_ p < 0
  ·simp only[c,if_true,List.take_succ_cons,As];rw[put_at l p n]
   split<;>simp
  ·by_cases c0:cmpL e.at_ p=0<;>simp[c,c0]
def era_at:∀ (l:List Entry) (p:List Int),dA l p=true->eraL l p=l.take (yQ l p)++l.drop (yQ l p+1)
 | [],p,h=>by cases h
 | e :: l,p,h=>by
  simp only[eraL,yQ,dA] at h ⊢;by_cases c:cmpL e.at_ p < 0
  ·simp only[c,if_true] at h ⊢;rw[era_at l p h];simp
  ·simp only[c,if_false,decide_eq_true_eq] at h;simp[c,h]
def zcq:∀ {l:List Entry} {p:List Int} {n:Int} {e:Entry},e∈putL l p n->e=⟨p,n⟩∨e∈l
 | [],p,n,e,h=>.inl (by simpa[putL] using h)
 | a :: l,p,n,e,h=>by
  simp only[putL] at h;split at h
  ·rcases Aq.1 h with h | h
   ·exact .inr (h ▸ Ah)
   ·exact (zcq h).imp id (Ad _)
  ·split at h
   ·exact (Aq.1 h).imp id (Ad _)
   ·exact Aq.1 h
def zcU:∀ {l:List Entry} {p:List Int} {e:Entry},e∈eraL l p->e∈l
 | [],p,e,h=>h
 | a :: l,p,e,h=>by
  simp only[eraL] at h;split at h
  ·rcases Aq.1 h with h | h
   ·exact h ▸ Ah
   ·exact Ad _ (zcU h)
  ·split at h
   ·exact Ad _ h
   ·exact h
def put_ris:∀ {l:List Entry} (p:List Int) (n:Int),Ris l->Ris (putL l p n)
 | [],p,n,_=>.cons (by simp) .nil
 | a :: l,p,n,h=>by
  have h':=B8.1 h;simp only[putL];by_cases c:cmpL a.at_ p < 0
  ·rw[if_pos c];refine .cons (fun x hx => ?_) (put_ris p n h'.2);rcases zcq hx with rfl | hx
   ·exact c
   ·exact h'.1 x hx
  ·rw[if_neg c];by_cases c0:cmpL a.at_ p=0
   ·rw[if_pos c0];have:=cmpL_eq c0;subst this;exact .cons h'.1 h'.2
   ·rw[if_neg c0];have oO:=cmpL_neg c c0;refine .cons (fun x hx => ?_) h;rcases Aq.1 hx with rfl | hx
    ·exact oO
    ·exact zad oO (h'.1 x hx)
def era_ris:∀ {l:List Entry} (p:List Int),Ris l->Ris (eraL l p)
 | [],p,_=>.nil
 | a :: l,p,h=>by
  have h':=B8.1 h;simp only[eraL];split
  ·exact .cons (fun x hx=>h'.1 x (zcU hx)) (era_ris p h'.2)
  ·split
   ·exact h'.2
   ·exact h
def EntsOk.put {o:List Dim} {l:List Entry} {p:List Int} {n:Int} (h:EntsOk o l) (hf:Fit o p) (hl:eg o p=true) (hv:zba n=true):EntsOk o (putL l p n):=by
 refine ⟨h.out,fun e he => ?_,fun e he => ?_,fun e he => ?_,(put_ris p n h.ris).rise⟩
 ·rcases zcq he with rfl | he
  ·exact hf
  ·exact h.fit e he
 ·rcases zcq he with rfl | he
  ·exact hl
  ·exact h.leaf e he
 ·rcases zcq he with rfl | he
  ·exact hv
  ·exact h.val e he
def EntsOk.era {o:List Dim} {l:List Entry} {p:List Int} (h:EntsOk o l):EntsOk o (eraL l p) :=
 ⟨h.out,fun e he=>h.fit e (zcU he),fun e he=>h.leaf e (zcU he),fun e he=>h.val e (zcU he),(era_ris p h.ris).rise⟩
def nodup_lt:∀ (n:Nat) (l:List Nat),l.Nodup->(∀ x∈l,x < n)->l.length<=n:=by
 have sub:∀ (l r:List Nat),l.Nodup->(∀ x∈l,x∈r)->l.length<=r.length:=by
  intro l
  induction l with
  | nil=>intro r _ _;exact BG _
  | cons a l ih =>intro r hn h;have ha:=h a Ah;obtain ⟨h1,h2⟩:=List.nodup_cons.1 hn;have:=ih (r.erase a) h2 fun x hx=>(List.mem_erase_of_ne (show x≠a from fun e=>by subst e;exact h1 hx)).2 (h x (Ad _ hx));rw[List.length_erase_of_mem ha] at this;have hr:0 < r.length:=List.length_pos_of_mem ha;simp only[AK];omega
 intro n l hn h;have:=sub l (List.range n) hn fun x hx=>Bc.2 (h x hx);simpa using this
def OutOk.pos {o:List Dim} (ok:OutOk o):∀ d∈o,0 < d.members.length:=fun d hd=>by have:=(ok.dims d hd).len;omega
def EntsOk.len {o:List Dim} {l:List Entry} (h:EntsOk o l):l.length<=20736:=by have hz:=h.out.sizeN.2;have hnd:(l.map fun e=>numN o e.at_).Nodup:=(by have:l.Pairwise fun a b=>numN o a.at_≠numN o b.at_:=(by refine List.Pairwise.imp_of_mem (fun {a b} ha hb lg he => ?_) h.ris;have e1:=zeE h.out.pos (h.fit a ha);have e2:=zeE h.out.pos (h.fit b hb);rw[he,e2] at e1;have:b.at_=a.at_:=(Prod.mk.inj e1).1;rw[this,zgj] at lg;omega);exact List.pairwise_map.2 this);have:=nodup_lt (sizeN o) _ hnd fun x hx=>(by obtain ⟨e,he,rfl⟩:=Ap.1 hx;exact num_lt (h.fit e he));rw[Ar] at this;omega
def EntsOk.gd {o:List Dim} {l:List Entry} (h:EntsOk o l) (hd:∀ d∈o,d.members.length<=1000):Lst Entry.gd l:=by
 have hl:=h.len;refine ⟨by omega,fun e he => ?_⟩;have hf:=h.fit e he;have gq:=h.out.len;have hv:=h.val e he;refine ⟨⟨by have:=hf.len;omega,fun x hx => ?_⟩, ?_⟩
 ·have hg:∀ {o:List Dim} {p:List Int},Fit o p->(∀ d∈o,d.members.length<=1000)->∀ x∈p,0<=x∧x < 1000:=by
   intro o
   induction o with
   | nil =>intro p hf _ x hx;have:=hf.len;rw[Bn this] at hx;cases hx
   | cons d o ih =>
    intro p hf hd x hx;cases p with
    | nil=>cases hx
    | cons m p =>
     obtain ⟨h1,h2⟩:=hf.tail;have pa:=hd d Ah;rcases Aq.1 hx with rfl | hx
     ·omega
     ·exact ih h2 (fun d mQ=>hd d (Ad _ mQ)) x hx
  have:=hg hf hd x hx
  constructor<;>omega
 ·simp only[zba,Ak,decide_eq_true_eq] at hv
  constructor<;>omega
def OutOk.dm {o:List Dim} (ok:OutOk o):∀ d∈o,d.members.length<=1000:=fun d hd=>by have:=(ok.dims d hd).len;omega
def half_eq {x:Nat} (h:x < 18446744073709551616):wi (IntKind.wrap .u64 (wi ((x:Nat):Int)) / 2)=((x / 2:Nat):Int):=by have e:IntKind.wrap .u64 (wi ((x:Nat):Int))=(x:Int):=(by simp[wi,IntKind.wrap,IntKind.bits,IntKind.signed];omega);rw[e,ww (by omega) (by omega)];omega
def P80_eq {l:List Entry} {p:List Int} (hr:Ris l) (hl:Lst Entry.gd l) (hp:p.length<=9223372036854775807):ziy l ⟨p,0⟩=some ((yQ l p:Int),dA l p):=by
 have hlen:=hl.1;have loop:∀ (n i j:Nat),j - i=n->i<=yQ l p->yQ l p<=j->j<=l.length->lpO (yb P61 l ⟨p,0⟩) ((i:Int),(j:Int))=some (.inl ((yQ l p:Int),(yQ l p:Int))):=by
  intro n
  induction n using Nat.strongRecOn with
  | _ n ih =>
   intro i j hn h1 h2 h3;by_cases mB:i < j
   ·have e1:(i:Int) < (j:Int):=by omega
    have hm:(i+j) / 2 < l.length:=by omega
    have ee:=Ac hm;have hg:=hl.2 _ (Be hm);have hc:=loc_lt p hr _ _ ee;have hh:wi (IntKind.wrap .u64 (wi ((i:Int)+(j:Int))) / 2)=(((i+j) / 2:Nat):Int):=by
     have:=half_eq (x:=i+j) (by omega)
     rwa [Int.natCast_add] at this
    by_cases c:cmpL l[(i+j) / 2].at_ p < 0
    ·have hB:yb P61 l ⟨p,0⟩ ((i:Int),(j:Int))=some (.nx ((((i+j) / 2+1:Nat):Int),(j:Int))):=(by simp only[yb,e1,decide_true,zw,hh,zn,ee,zq,ziz _ _ hg.1.1,c,qp,yR,eo];rw[ww (by omega) (by omega)];rfl);rw[zcJ hB];have:=hc.1 c;exact ih (j - ((i+j) / 2+1)) (by omega) _ _ rfl (by omega) h2 h3
    ·have hB:yb P61 l ⟨p,0⟩ ((i:Int),(j:Int))=some (.nx ((i:Int),(((i+j) / 2:Nat):Int))):=(by simp only[yb,e1,decide_true,zw,hh,zn,ee,zq,ziz _ _ hg.1.1,c,decide_false,zi,qp,yR,eo]);rw[zcJ hB];have:¬ (i+j) / 2 < yQ l p:=fun h=>c (hc.2 h);exact ih ((i+j) / 2 - i) (by omega) _ _ rfl h1 (by omega) (by omega)
   ·have hi:i=yQ l p:=by omega
    have hj:j=yQ l p:=by omega
    rw[jt (y:=((i:Int),(j:Int)))]
    ·rw[hi,hj]
    ·have e1:¬ (i:Int) < (j:Int):=by omega
     simp[yb,e1]
 have hL:=loop l.length 0 l.length (by omega) (BG _) (loc_le l p) (AO _);simp only[ziy,S80_61,wc];rw[show ((0:Int),((l.length:Nat):Int))=(((0:Nat):Int),((l.length:Nat):Int)) from rfl,hL];simp only[yR];rw[lq];by_cases c:yQ l p < l.length
 ·have e1:((yQ l p:Nat):Int) < ((l.length:Nat):Int):=by omega
  have ee:=Ac c;have hg:=hl.2 _ (Be c);simp only[e1,decide_true,zw,zn,ee,zq,ziz _ _ hg.1.1,qp,yR]
 ·have e1:¬ ((yQ l p:Nat):Int) < ((l.length:Nat):Int):=by omega
  have ee:l[yQ l p]? = none:=BC (by omega);simp[e1,ee]
def P73_eq {l:List Entry} {p:List Int} (hr:Ris l) (hl:Lst Entry.gd l) (hp:p.length<=9223372036854775807):P73 l p=some ((yQ l p:Int),dA l p):=by simp[P73,S73,P80_eq hr hl hp]
def doL (o:List Dim) (l:List Entry) (e:Edit):List Entry×Int :=
 if zaw o e.at_=0 then
  if e.clear=true then (if dA l e.at_=true then (eraL l e.at_,0) else ([],5))
  else if eg o e.at_=false then ([],6) else if zba e.n=false then ([],1) else (putL l e.at_ e.n,0)
 else ([],zaw o e.at_)
def zaz {α:Type} {xs:List α} (h:xs.length<=qB):zdy xs=some xs:=by simp[zdy,h]
def P71_eq {o:List Dim} {l:List Entry} {e:Edit} (ok:EntsOk o l) (he:e.at_.length<=9223372036854775807):P71 o l e=some ((doL o l e).1,zp (doL o l e).2):=by
 have hl:=ok.gd ok.out.dm;have hlen:=ok.len;have gq:=ok.out.len;simp only[P71,S71,P58_eq o e.at_ he,zq,zT];unfold doL;by_cases c1:zaw o e.at_=0
 case neg=>simp[c1]
 have hf:=zcQ.1 c1;have kV:=hf.len;simp only[c1,decide_true,Bf,zi,if_true,P73_eq ok.ris hl he,zq];have hloc:=loc_le l e.at_;have aY:wi (((yQ l e.at_:Nat):Int)+1)=((yQ l e.at_+1:Nat):Int):=by rw[ww (by omega) (by omega)];omega
 have aq:dA l e.at_=true->yQ l e.at_ < l.length∧∃ e0,l[yQ l e.at_]? = some e0∧e0.at_=e.at_:=fun h=>by
  rw[lq] at h;split at h
  ·rename_i e0 fw;exact ⟨(Aa.1 fw).1,e0,fw,cmpL_eq (of_decide_eq_true h)⟩
  ·cases h
 cases c2:e.clear with
 | true =>
  cases c3:dA l e.at_ with
  | false=>simp[zp]
  | true =>have nF:P77 l ((yQ l e.at_:Nat):Int) ((yQ l e.at_+1:Nat):Int)=some (eraL l e.at_):=(by unfold P77;have:=(aq c3).1;rw[era_at l e.at_ c3,zL (by omega)];simp);simp[aY,zp];rw[show ((yQ l e.at_:Nat):Int)+1=((yQ l e.at_+1:Nat):Int) by omega,nF];rfl
 | false =>
  simp only[Am,if_false,zi,qp,yR,P59_eq hf he ok.out.dm,zq];cases c3:eg o e.at_ with
  | false=>simp[zp]
  | true =>
   simp only[Bf,zi,P60_eq,zq];cases c4:zba e.n with
   | false=>simp[zp]
   | true =>
    simp only[Bf,zi];rw[put_at];cases c5:dA l e.at_ with
    | true =>
     obtain ⟨h1,e0,h2,h3⟩:=aq c5;have bU:0<=((yQ l e.at_:Nat):Int)∧((yQ l e.at_:Nat):Int) < ((l.length:Nat):Int):=by omega
     simp only[zw,zL bU,Bw,h2,zq,h3];simp[zp,List.set_eq_take_append_cons_drop,h1]
    | false =>have nH:P76s e.at_=some e.at_:=zaz (by unfold qB;omega);simp only[zi,nH,zq];have nE:P78 l ((yQ l e.at_:Nat):Int) [⟨e.at_,e.n⟩]=some (l.take (yQ l e.at_)++⟨e.at_,e.n⟩ :: l.drop (yQ l e.at_)):=(by unfold P78;rw[zL (by unfold wD;simp;omega)];simp);rw[nE];simp[zp]
def P72_eq {l:List Entry} (hl:l.length<=qB) (hp:∀ e∈l,e.at_.length<=qB):P72 l=some l:=by
 have h79:P79 l=some l:=zaz hl;simp only[P72,S72,h79,zq,wc];have hs:=qS (B:=zef P76s l) (fun i=>((i:Int),l)) l.length (fun i hi=>by
  have e:((i:Nat):Int) < ((l.length:Nat):Int):=by omega
  have bU:0<=((i:Nat):Int)∧((i:Nat):Int) < ((l.length:Nat):Int):=by omega
  have ee:=Ac hi;have nH:P76s l[i].at_=some l[i].at_:=zaz (hp _ (Be hi));have al:l.length<=6000000000000:=hl;simp only[zef,e,decide_true,zw,zL bU,Bw,ee,zq,nH,eo];rw[ww (by omega) (by omega)];have:l.set i ⟨l[i].at_,l[i].n⟩=l:=(by rw[show (⟨l[i].at_,l[i].n⟩:Entry)=l[i] from rfl];exact List.set_getElem_self hi);rw[this]
  rfl)
 have e0:lpO (zef P76s l) (0,l)=lpO (zef P76s l) ((l.length:Int),l):=hs;rw[e0,jt (y:=((l.length:Int),l)) (by simp[zef])];rfl
end Ab
