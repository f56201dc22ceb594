/-
  Plain laws: folded in any order all cells come to what comes of all parts.
-/
import Derived.Test.YtckaniphjiniiaaGreatDoorHN
import Derived.Test.YtckaniphjiniiaaGreatDoorC5
set_option linter.all false
namespace Ab
open Go
def wv (ms:List Member) (i k:Int):Int:=(wl ms i (path ms k)).getD 0
section
variable {ms:List Member} (h:Rooted ms)
include h
theorem zgo {k:Nat} (hk:k<ms.length):wv ms (k:Int) (k:Int)=1:=by unfold wv;rw[zaz h (Aa hk)];simp[wl]
theorem wv_up {i:Int} {k:Nat} {m:Member} (hm:ms[k]? = some m) (ah:i≠(k:Int)):wv ms i (k:Int)=m.sign*wv ms i m.parent:=by
 have hs:sgn ms (k:Int)=m.sign:=by simp only[sgn,Ap,hm]
 unfold wv;rw[zaz h hm];simp only[wl];rw[if_neg (fun e=>ah e.symm)];cases wl ms i (path ms m.parent) with
 | none=>simp
 | some v=>simp[hs]
omit h in
theorem wv_neg {i k:Int} (hk:k<0):wv ms i k=0:=by unfold wv;rw[zad hk];rfl
omit h in
theorem wl_none {i:Int}:∀ {ys:List Int},i∉ys->wl ms i ys=none
 | [],_=>rfl
 | y::r,hy=>by
  simp only[wl];rw[if_neg (fun e=>hy (by simp[e])),wl_none (fun hm=>hy (Ad _ hm))];rfl
theorem wv_above {i:Int} {k:Nat} (hk:k<ms.length) (hi:(k:Int)<i):wv ms i (k:Int)=0:=by unfold wv;rw[wl_none (fun hm=>by have:=sn h k k (Az _) hk i hm;omega)];rfl
theorem wv_in (i k:Int) : -1<=wv ms i k∧wv ms i k<=1:=by
 unfold wv;cases hv:wl ms i (path ms k) with
 | none=>simp
 | some v=>simpa using wl_in h i _ v hv
theorem zjV {i x:Int}:x∈partsOf ms i↔∃(k:Nat) (m:Member),x=(k:Int)∧ms[k]? = some m∧m.parent=i:=by
 unfold partsOf;rw[zgZ];constructor
 ·rintro⟨k,e,hk,hp⟩;unfold zez at hp;rw[Aa hk] at hp;exact⟨k,_,e,Aa hk,by simpa using hp⟩
 ·rintro⟨k,m,e,hm,hp⟩;refine⟨k,e,(Ac.1 hm).1, ?_⟩;unfold zez;rw[hm];simpa using hp
def zgv (g:Int->Int) (ps:List Int):Int:=(ps.map g).sum
omit h in
theorem wJ (g:Int->Int) (x:Int) (ps:List Int):zgv g (x::ps)=g x+zgv g ps:=by simp[zgv]
omit h in
theorem oo {g:Int->Int} {ps:List Int} (hz:∀x∈ps,g x=0):zgv g ps=0:=by
 induction ps with
 | nil=>rfl
 | cons x r ih=>rw[wJ,hz x (by simp),ih fun y hy=>hz y (Ad _ hy)];rfl
omit h in
theorem sumP_one {g:Int->Int} {ps:List Int} {k:Int} (hn:ps.Nodup) (hk:k∈ps) (hz:∀x∈ps,x≠k->g x=0):zgv g ps=g k:=by
 induction ps with
 | nil=>cases hk
 | cons x r ih =>
  rw[wJ];have e8:=BS.1 hn;by_cases e:x=k
  ·subst e;rw[oo fun y hy=>hz y (Ad _ hy) fun e=>e8.1 (e▸hy)];omega
  ·rw[hz x (by simp) e,ih e8.2 ((Ar.1 hk).resolve_left fun e2=>e e2.symm) fun y hy=>hz y (Ad _ hy)];omega
omit h in
theorem zfK {g g':Int->Int} {ps:List Int} (he:∀x∈ps,g x=g' x):zgv g ps=zgv g' ps:=by unfold zgv;rw[Am he]
omit h in
theorem zkV (c:Int) (g:Int->Int) (ps:List Int):zgv (fun x=>c*g x) ps=c*zgv g ps:=by
 induction ps with
 | nil=>simp[zgv]
 | cons x r ih=>rw[wJ,wJ,ih,Int.mul_add]
omit h in
theorem zmt (p:Nat->Bool) (n:Nat):(zlm p n).Nodup:=by unfold zlm List.Nodup;rw[CA];exact ((Dc (n:=n)).filter p).imp fun h e=>h (by omega)
theorem zkJ:∀(k:Nat),k<ms.length->∀(i:Int),0<=i->i≠(k:Int) ->
  wv ms i (k:Int)=zgv (fun x=>sgn ms x*wv ms x (k:Int)) (partsOf ms i)∧(wv ms i (k:Int)≠0↔∃x∈partsOf ms i,sgn ms x≠0∧wv ms x (k:Int)≠0):=by
 intro k
 induction k using Nat.strongRecOn with
 | ind k ih =>
  intro hk i hi ah;have hm:=Aa hk;have hu:=h.up _ _ hm;have iI:sgn ms (k:Int)=ms[k].sign:=by simp only[sgn,Ap,hm]
  rw[wv_up h hm ah];by_cases hp:ms[k].parent=i
  ·obtain⟨j,rfl⟩:=Bk hi;have hj:j<ms.length:=by omega
   have aP:(k:Int)∈partsOf ms (j:Int):=(zjV h).2 ⟨k,_,rfl,hm,hp⟩;have hz:∀x∈partsOf ms (j:Int),x≠(k:Int)->wv ms x (k:Int)=0:=fun x hx oT=>(by obtain⟨k',m',rfl,eO,cp⟩:=(zjV h).1 hx;have kV:=h.up _ _ eO;rw[wv_up h hm oT,hp,wv_above h hj (by omega),CT]);rw[hp,zgo h hj,Int.mul_one,sumP_one (ps:=partsOf ms (j:Int)) (show (partsOf ms (j:Int)).Nodup from zmt _ _) aP (fun x hx oT=>by rw[hz x hx oT,CT]),zgo h hk,iI,Int.mul_one];refine⟨rfl,fun h0=>⟨_,aP,by rw[iI];exact h0,by rw[zgo h hk];omega⟩, ?_⟩;rintro⟨x,hx,h1,h2⟩;by_cases e:x=(k:Int)
   ·subst e;rw[iI] at h1;exact h1
   ·exact absurd (hz x hx e) h2
  ·have hx:∀x∈partsOf ms i,wv ms x (k:Int)=ms[k].sign*wv ms x ms[k].parent:=fun x hx=>by
    obtain⟨k',m',rfl,eO,cp⟩:=(zjV h).1 hx;refine wv_up h hm fun e=>hp ?_;have:k'=k:=by omega
    subst this;rw[hm] at eO;cases eO;exact cp
   by_cases iR:ms[k].parent<0
   ·rw[wv_neg iR,CT,oo (fun x fv=>by rw[hx x fv,wv_neg iR,CT,CT])];refine⟨rfl,fun h0=>absurd rfl h0, ?_⟩;rintro⟨x,fv,h1,h2⟩;rw[hx x fv,wv_neg iR,CT] at h2;exact absurd rfl h2
   ·obtain⟨q,hq⟩:=Bk (by omega:0<=ms[k].parent);rw[hq] at hx hp hu ⊢;obtain⟨i1,i2⟩:=ih q (by omega) (by omega) i hi (fun e=>hp e.symm);constructor
    ·rw[i1,←zkV];refine zfK fun x fv => ?_;rw[hx x fv,Int.mul_left_comm]
    ·rw[Ch,i2];constructor
     ·rintro⟨h0,x,fv,h1,h2⟩;exact⟨x,fv,h1,by rw[hx x fv];exact Int.mul_ne_zero h0 h2⟩
     ·rintro⟨x,fv,h1,h2⟩;rw[hx x fv] at h2;exact⟨(Ch.1 h2).1,x,fv,h1,(Ch.1 h2).2⟩
theorem wv_leaf {i:Int} {k:Nat} (hi:0<=i) (hk:k<ms.length) (hp:partsOf ms i=[]):wv ms i (k:Int)=if i=(k:Int) then 1 else 0:=by
 by_cases e:i=(k:Int)
 ·rw[if_pos e,e,zgo h hk]
 ·rw[if_neg e,(zkJ h k hk i hi e).1,hp];rfl
end
def fac (b:Bool) (d:Dim) (m q:Int):Int:=if b=true then wv d.members m q else if m=q then 1 else 0
def wS (S:Nat->Bool):Nat->List ((Int×Dim)×Int)->Int
 | _,[]=>1
 | i,x::r=>fac (S i) x.1.2 x.1.1 x.2*wS S (i+1) r
theorem fac_in {d:Dim} (h:Rooted d.members) (b:Bool) (m q:Int) : -1<=fac b d m q∧fac b d m q<=1:=by
 unfold fac;split
 ·exact wv_in h m q
 ·split<;>omega
theorem wS_in (S:Nat->Bool):∀(z:List ((Int×Dim)×Int)) (i:Nat),(∀x∈z,Rooted x.1.2.members) -> -1<=wS S i z∧wS S i z<=1
 | [],_,_=>by simp[wS]
 | x::r,i,hz=>zeq (fac_in (hz x (by simp)) _ _ _) (wS_in S r (i+1) fun y hy=>hz y (Ad _ hy))
theorem zkM {S T:Nat->Bool}:∀(z:List ((Int×Dim)×Int)) (i:Nat),(∀j,i<=j->j<i+z.length->S j=T j)->wS S i z=wS T i z
 | [],_,_=>rfl
 | x::r,i,h=>by
  simp only[wS];rw[h i (Az _) (by simp),zkM r (i+1) fun j h1 h2=>h j (by omega) (by simp only[Ax];omega)]
theorem wS_set:∀(o:List Dim) (p q:List Int) (dim i0:Nat) (S:Nat->Bool) (d:Dim) (m:Int),p.length=o.length->q.length=o.length->o[dim]? = some d->q[dim]? = some m ->
  ∃R:Int,∀(k:Int) (T:Nat->Bool),(∀i,i≠i0+dim->T i=S i)->wS T i0 (wZ o (p.set dim k) q)=R*fac (T (i0+dim)) d k m
 | [],_,_,dim,_,_,_,_,_,_,h,_=>by simp at h
 | d0::o,[],_,_,_,_,_,_,h,_,_,_=>by simp at h
 | d0::o,x::p,[],_,_,_,_,_,_,h,_,_=>by simp at h
 | d0::o,x::p,y::q,0,i0,S,d,m,h1,h2,hd,hm=>by
  simp at hd hm;subst hd;subst hm;refine⟨wS S (i0+1) (wZ o p q),fun k T hT => ?_⟩;have e:wZ (d0::o) ((x::p).set 0 k) (y::q)=((k,d0),y)::wZ o p q:=rfl;rw[e];simp only[wS,BF];rw[zkM (S:=T) (T:=S) _ _ fun j h3 h4=>hT j (by omega),Int.mul_comm]
 | d0::o,x::p,y::q,dim+1,i0,S,d,m,h1,h2,hd,hm=>by
  simp only[A4] at hd hm;obtain⟨R,hR⟩:=wS_set o p q dim (i0+1) S d m (by simpa using h1) (by simpa using h2) hd hm;refine⟨fac (S i0) d0 x y*R,fun k T hT => ?_⟩;have e:wZ (d0::o) ((x::p).set (dim+1) k) (y::q)=((x,d0),y)::wZ o (p.set dim k) q:=rfl;rw[e];simp only[wS];rw[hR k T fun i hi=>hT i (by omega),hT i0 (by omega),DD,show i0+1+dim=i0+(dim+1) from by omega]
theorem pw_all:∀(z:List ((Int×Dim)×Int)) (i:Nat),wS (fun _=>true) i z=(pwL z).getD 0
 | [],_=>rfl
 | x::r,i=>by
  simp only[wS,pwL,fac,if_true,wv];rw[pw_all r (i+1)];cases wl x.1.2.members x.1.1 (path x.1.2.members x.2) with
  | none=>simp
  | some v=>cases pwL r with
   | none=>simp
   | some u=>simp
def wE (S:Nat->Bool) (o:List Dim) (p:List Int) (e:Entry):Int:=wS S 0 (wZ o p e.at_)
def zbH (f:Entry->Int) (l:List Entry):Int:=(l.map fun e=>f e*e.n).sum
def zju (f:Entry->Int) (l:List Entry):Bool:=l.any fun e=>decide (f e≠0)
def bI (b:Bool):Int:=match b with|true=>1|false=>0
@[simp] theorem bI_t:bI true=1:=rfl
@[simp] theorem bI_f:bI false=0:=rfl
def zfF (f:Entry->Int) (l:List Entry):Cell:=⟨bI (zju f l),zbH f l⟩
theorem jQ (f:Entry->Int) (e:Entry) (l:List Entry):zbH f (e::l)=f e*e.n+zbH f l:=by simp[zbH]
theorem zl2 {f g:Entry->Int} {l:List Entry} (h:∀e∈l,f e=g e):zbH f l=zbH g l:=by unfold zbH;rw[Am fun e he=>by rw[h e he]]
theorem oj {f:Entry->Int} {l:List Entry} (h:zju f l=false):zbH f l=0:=by
 induction l with
 | nil=>rfl
 | cons e l ih =>
  simp only[zju,Cf,B0] at h;have h0:f e=0:=by have:=of_decide_eq_false h.1;omega
  rw[jQ,h0,ih h.2];omega
theorem sumE_in {f:Entry->Int} {l:List Entry} (hf:∀e∈l, -1<=f e∧f e<=1) (hv:∀e∈l,jP e.n=true) : -1000000*(l.length:Int)<=zbH f l∧zbH f l<=1000000*(l.length:Int):=by
 induction l with
 | nil=>simp[zbH]
 | cons e l ih =>have ih:=ih (fun x hx=>hf x (Ad _ hx)) fun x hx=>hv x (Ad _ hx);have h1:=hf e (by simp);have h2:=hv e (by simp);simp only[jP,Ai,decide_eq_true_eq] at h2;have h3 : -1000000<=f e*e.n∧f e*e.n<=1000000:=(by rcases (by omega:f e = -1∨f e=0∨f e=1) with e1|e1|e1<;>rw[e1]<;>omega);rw[jQ];simp only[Ax];omega
theorem zgw (g:Int->Entry->Int) (s:Int->Int) (ps:List Int):∀(l:List Entry),zbH (fun e=>zgv (fun x=>s x*g x e) ps) l=zgv (fun x=>s x*zbH (g x) l) ps
 | []=>by
  have:∀x,s x*zbH (g x) []=0:=fun x=>by simp[zbH]
  rw[oo (fun x _=>this x)];rfl
 | e::l=>by
  rw[jQ,zgw g s ps l];clear zgw
  induction ps with
  | nil=>simp[zgv]
  | cons x r ih =>simp only[wJ,jQ];rw[C5,Int.mul_add];have:=ih;rw[show s x*g x e*e.n=s x*(g x e*e.n) from DD ..];simp only[jQ] at this;omega
section
variable {o:List Dim} {dim:Nat} {d:Dim} (ok:OutOk o) (hd:o[dim]? = some d)
include ok hd
theorem zlD {cs:List Cell} {n:Nat} {l:List Entry} (g:Int->Entry->Int) (hl:l.length<=20736) (hv:∀e∈l,jP e.n=true) :
  ∀(ps:List Int) (b:Bool) (t:Int),(∀x∈ps,cs.getD (idxK o dim n x) ⟨0,0⟩=zfF (g x) l∧(∀e∈l, -1<=g x e∧g x e<=1) ∧ -1<=sgn d.members x∧sgn d.members x<=1) ->
   (b=false->t=0)->∀c:Nat,c+ps.length<=20 -> -20736000000*(c:Int)<=t->t<=20736000000*(c:Int) ->
   ps.foldl (comb1 o dim d.members cs n) ⟨bI b,t⟩=⟨bI (b || ps.any fun x=>decide (sgn d.members x≠0) && zju (g x) l),t+zgv (fun x=>sgn d.members x*zbH (g x) l) ps⟩
 | [],b,t,_,_,c,_,_,_=>by simp[zgv]
 | x::ps,b,t,hx,hb,c,hc,h1,h2=>by
  obtain⟨hg,hf,s1,s2⟩:=hx x (by simp);obtain⟨b1,b2⟩:=sumE_in hf hv;have bJ : -20736000000<=zbH (g x) l∧zbH (g x) l<=20736000000:=by omega
  have hsx:sgn d.members x = -1∨sgn d.members x=0∨sgn d.members x=1:=by omega
  have hse : -20736000000<=sgn d.members x*zbH (g x) l∧sgn d.members x*zbH (g x) l<=20736000000:=(by rcases hsx with e|e|e<;>rw[e]<;>omega);simp only[Ax] at hc;have step:comb1 o dim d.members cs n ⟨bI b,t⟩ x=⟨bI (b || (decide (sgn d.members x≠0) && zju (g x) l)),t+sgn d.members x*zbH (g x) l⟩:=by
   unfold comb1;by_cases e0:sgn d.members x=0
   ·rw[if_pos e0,e0];simp
   ·rw[if_neg e0,hg];unfold zbb zfF;have k2:∀a:Bool,¬bI a=2:=by intro a;cases a<;>simp
    rw[if_neg (by simp only[k2,or_self,not_false_eq_true])];cases b with
    | false =>
     have ht:=hb rfl;subst ht;cases ha:zju (g x) l with
     | false=>simp[oj ha]
     | true =>
      have hw:within (sgn d.members x*zbH (g x) l)=true:=by unfold within;simp only[Ai,decide_eq_true_eq];omega
      simp only[Int.zero_add];rw[zR (n:=sgn d.members x*zbH (g x) l) (by omega) (by omega),zR (by omega) (by omega)];simp[e0,jT,hw]
    | true =>
     have hw:within (t+sgn d.members x*zbH (g x) l)=true:=by unfold within;simp only[Ai,decide_eq_true_eq];omega
     rw[zR (n:=sgn d.members x*zbH (g x) l) (by omega) (by omega)];show (if _ then _ else jT (wi (t+sgn d.members x*zbH (g x) l)))=_
     rw[zR (by omega) (by omega)];simp[e0,jT,hw]
  rw[Be,step,zlD g hl hv ps _ _ (fun y hy=>hx y (Ad _ hy)) ?_ (c+1) (by omega) (by omega) (by omega)]
  ·simp only[Cf,wJ,Bool.or_assoc,Int.add_assoc]
  ·intro rB;simp only[B0,Dp] at rB;have ht:=hb rB.1;rcases rB.2 with h3|h3
   ·have:sgn d.members x=0:=by have:=of_decide_eq_false h3;omega
    rw[ht,this];omega
   ·rw[ht,oj h3];omega
theorem zmq {p:List Int} (hf:Fit o p) (hl:jX o p=true) {q:Int} (hq:p[dim]? = some q):0<=q∧q<d.members.length∧partsOf d.members q=[]:=by have hr:=hf.mem dim q d hq hd;refine⟨hr.1,hr.2, ?_⟩;have hz:(p.zip o)[dim]? = some (q,d):=Bm.2 ⟨hq,hd⟩;have:=Af.1 hl _ (Ae hz);unfold yi at this;obtain⟨k,rfl⟩:=Bk hr.1;simp only[Ap] at this;rw[Aa (by omega)] at this;simp only[Ai,decide_eq_true_eq] at this;exact this.2
end
theorem wS_none:∀(o:List Dim) (p q:List Int) (i:Nat),p.length=o.length->q.length=o.length->wS (fun _=>false) i (wZ o p q)=if p=q then 1 else 0
 | [],[],[],_,_,_=>rfl
 | [],_::_,_,_,h,_=>by simp at h
 | [],[],_::_,_,_,h=>by simp at h
 | _::_,[],_,_,h,_=>by simp at h
 | _::_,_::_,[],_,_,h=>by simp at h
 | d::o,x::p,y::q,i,h1,h2=>by
  have e:wZ (d::o) (x::p) (y::q)=((x,d),y)::wZ o p q:=rfl;rw[e];simp only[wS,fac];rw[wS_none o p q (i+1) (by simpa using h1) (by simpa using h2)];by_cases c1:x=y
  ·by_cases c2:p=q
   ·simp[c1,c2]
   ·simp[c1,c2]
  ·simp[c1]
theorem zlE (f:Entry->Int):∀(l:List Entry) (p:List Int),Ris l->(∀e∈l,jP e.n=true)->(∀e∈l,f e=if p=e.at_ then 1 else 0) ->
  zfF f l=match l.find? (fun e=>decide (e.at_=p)) with|some e=>jT e.n|none=>⟨0,0⟩
 | [],p,_,_,_=>rfl
 | e::l,p,hr,hv,hf=>by
  have bO:=Br.1 hr;have ih:=zlE f l p bO.2 (fun x hx=>hv x (Ad _ hx)) fun x hx=>hf x (Ad _ hx);have h0:=hf e (by simp);by_cases c:e.at_=p
  ·have hz:∀x∈l,f x=0:=fun x hx=>(by rw[hf x (Ad _ hx),if_neg];intro e2;have:=bO.1 x hx;rw[c,e2,qM] at this;omega);have ha:zju f l=false:=(by unfold zju;rw[Cq];intro x hx;simp[hz x hx]);rw[if_pos c.symm] at h0;have hw:=hv e (by simp);have hw:within e.n=true:=(by unfold jP at hw;unfold within;simp only[Ai,decide_eq_true_eq] at hw ⊢;omega);simp only[List.find?_cons,c,decide_true];unfold zfF jT;rw[jQ,h0,oj ha,if_pos hw];simp[zju,h0]
  ·rw[if_neg (fun e2=>c e2.symm)] at h0;simp only[List.find?_cons,c,decide_false];rw[←ih];unfold zfF;rw[jQ,h0];simp[zju,h0]
theorem roll_cell {o:List Dim} {p:List Int} {l:List Entry} (hr:∀e∈l,∀x∈wZ o p e.at_,Rooted x.1.2.members) (hv:∀e∈l,jP e.n=true):∀(b:Bool) (t:Int) (c:Nat),c+l.length<=30000 -> -1000000*(c:Int)<=t->t<=1000000*(c:Int) ->
  l.foldl (zhC o p) (bI b,t)=(bI (b || zju (wE (fun _=>true) o p) l),t+zbH (wE (fun _=>true) o p) l):=by
 induction l with
 | nil=>intro b t c _ _ _;simp[zju,zbH]
 | cons e l ih =>
  intro b t c hc h1 h2;have hw:wE (fun _=>true) o p e=(pwL (wZ o p e.at_)).getD 0:=pw_all _ 0;have bJ : -1<=wE (fun _=>true) o p e∧wE (fun _=>true) o p e<=1:=wS_in _ _ 0 (hr e (by simp));have hn:=hv e (by simp);simp only[jP,Ai,decide_eq_true_eq] at hn;have h3 : -1000000<=wE (fun _=>true) o p e*e.n∧wE (fun _=>true) o p e*e.n<=1000000:=(by rcases (by omega:wE (fun _=>true) o p e = -1∨wE (fun _=>true) o p e=0∨wE (fun _=>true) o p e=1) with e1|e1|e1<;>rw[e1]<;>omega);simp only[Ax] at hc;have step:zhC o p (bI b,t) e=(bI (b || decide (wE (fun _=>true) o p e≠0)),t+wE (fun _=>true) o p e*e.n):=by
   unfold zhC;rw[hw] at h3 ⊢;cases gQ:pwL (wZ o p e.at_) with
   | none=>simp
   | some w =>
    rw[gQ] at h3;simp only[A7] at h3 ⊢;by_cases w0:w=0
    ·simp[w0]
    ·rw[zR (n:=w*e.n) (by omega) (by omega),zR (by omega) (by omega)];simp[w0]
  rw[Be,step,ih (fun x hx=>hr x (Ad _ hx)) (fun x hx=>hv x (Ad _ hx)) _ _ (c+1) (by omega) (by omega) (by omega),jQ];simp only[zju,Cf,Bool.or_assoc,Int.add_assoc]
theorem roll_eq {o:List Dim} {p:List Int} {l:List Entry} (eo:EntsOk o l):(⟨(zcr o l p).1,(zcr o l p).2⟩:Cell)=zfF (wE (fun _=>true) o p) l:=by
 have:=roll_cell (o:=o) (p:=p) (l:=l) (fun e he x hx=>by
  obtain⟨i,hi⟩:=AA.1 hx;exact (eo.out.dims _ (Ae (zbI hi).2.1)).rooted) eo.val false 0 0 (by have:=eo.len;omega) (by omega) (by omega)
 unfold zcr;have e0:((bI false,0):Int×Int)=(0,0):=rfl;rw[←e0,this];simp[zfF]
end Ab
