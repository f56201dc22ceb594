/-
  Plain laws: folded in any order all cells come to what comes of all parts.
-/
import Derived.Test.YtchidgkpkhloeaaGreatDoorHN
import Derived.Test.YtchidgkpkhloeaaGreatDoorC5
open List (any_cons getElem?_eq_getElem length_cons mem_cons_of_mem)
open Int (mul_zero)
open Bool (and_eq_true)
set_option linter.unusedVariables false
set_option linter.unusedSimpArgs false
set_option linter.unusedSectionVars false
namespace Ab
open Go
def wv (ms:List Member) (i k:Int):Int:=(wl ms i (path ms k)).getD 0
section
variable {ms:List Member} (h:Rooted ms)
include h
theorem zee {k:Nat} (hk:k < ms.length):wv ms (k:Int) (k:Int)=1:=by
 unfold wv;rw[wn h (getElem?_eq_getElem hk)];simp[wl]
theorem wv_up {i:Int} {k:Nat} {m:Member} (hm:ms[k]? = some m) (hne:i≠(k:Int)):wv ms i (k:Int)=m.sign * wv ms i m.parent:=by
 have hs:sgn ms (k:Int)=m.sign:=by simp only[sgn,Int.toNat_natCast,hm]
 unfold wv;rw[wn h hm];simp only[wl];rw[if_neg (fun e=>hne e.symm)];cases wl ms i (path ms m.parent) with
 | none=>simp
 | some v=>simp[hs]
omit h in
theorem wv_neg {i k:Int} (hk:k < 0):wv ms i k=0:=by
 unfold wv;rw[yJ hk];rfl
omit h in
theorem wl_none {i:Int}:∀ {ys:List Int},i ∉ ys->wl ms i ys=none
 | [],_=>rfl
 | y :: r,hy=>by
  simp only[wl];rw[if_neg (fun e=>hy (by simp[e])),wl_none (fun hm=>hy (mem_cons_of_mem _ hm))];rfl
theorem wv_above {i:Int} {k:Nat} (hk:k < ms.length) (hi:(k:Int) < i):wv ms i (k:Int)=0:=by
 unfold wv;rw[wl_none (fun hm=>by have:=zhU h k k (Nat.le_refl _) hk i hm;omega)];rfl
theorem wv_in (i k:Int) : -1<=wv ms i k∧wv ms i k<=1:=by
 unfold wv;cases hv:wl ms i (path ms k) with
 | none=>simp
 | some v=>simpa using wl_in h i _ v hv
theorem zgT {i x:Int}:x∈partsOf ms i↔∃ (k:Nat) (m:Member),x=(k:Int)∧ms[k]? = some m∧m.parent=i:=by
 unfold partsOf;rw[zeG];constructor
 ·rintro ⟨k,e,hk,hp⟩;unfold zcC at hp;rw[getElem?_eq_getElem hk] at hp;exact ⟨k,_,e,getElem?_eq_getElem hk,by simpa using hp⟩
 ·rintro ⟨k,m,e,hm,hp⟩;refine ⟨k,e,(List.getElem?_eq_some_iff.1 hm).1, ?_⟩;unfold zcC;rw[hm];simpa using hp
def zej (g:Int->Int) (ps:List Int):Int:=(ps.map g).sum
omit h in
theorem yn (g:Int->Int) (x:Int) (ps:List Int):zej g (x :: ps)=g x+zej g ps:=by simp[zej]
omit h in
theorem zca {g:Int->Int} {ps:List Int} (hz:∀ x∈ps,g x=0):zej g ps=0:=by
 induction ps with
 | nil=>rfl
 | cons x r ih=>rw[yn,hz x (by simp),ih fun y hy=>hz y (mem_cons_of_mem _ hy)];rfl
omit h in
theorem sumP_one {g:Int->Int} {ps:List Int} {k:Int} (hn:ps.Nodup) (hk:k∈ps) (hz:∀ x∈ps,x≠k->g x=0):zej g ps=g k:=by
 induction ps with
 | nil=>cases hk
 | cons x r ih =>
  rw[yn];have hn':=List.nodup_cons.1 hn;by_cases e:x=k
  ·subst e;rw[zca fun y hy=>hz y (mem_cons_of_mem _ hy) fun e=>hn'.1 (e ▸ hy)];omega
  ·rw[hz x (by simp) e,ih hn'.2 ((List.mem_cons.1 hk).resolve_left fun e2=>e e2.symm) fun y hy=>hz y (mem_cons_of_mem _ hy)];omega
omit h in
theorem zdF {g g':Int->Int} {ps:List Int} (he:∀ x∈ps,g x=g' x):zej g ps=zej g' ps:=by
 unfold zej;rw[List.map_congr_left he]
omit h in
theorem zhO (c:Int) (g:Int->Int) (ps:List Int):zej (fun x=>c * g x) ps=c * zej g ps:=by
 induction ps with
 | nil=>simp[zej]
 | cons x r ih=>rw[yn,yn,ih,Int.mul_add]
omit h in
theorem zjc (p:Nat->Bool) (n:Nat):(zjd p n).Nodup:=by
 unfold zjd List.Nodup;rw[List.pairwise_map];exact ((List.nodup_range (n:=n)).filter p).imp fun h e=>h (by omega)
theorem zhG:∀ (k:Nat),k < ms.length->∀ (i:Int),0<=i->i≠(k:Int) ->
  wv ms i (k:Int)=zej (fun x=>sgn ms x * wv ms x (k:Int)) (partsOf ms i)∧(wv ms i (k:Int)≠0↔∃ x∈partsOf ms i,sgn ms x≠0∧wv ms x (k:Int)≠0):=by
 intro k
 induction k using Nat.strongRecOn with
 | ind k ih =>
  intro hk i hi hne;have hm:=getElem?_eq_getElem hk;have hu:=h.up _ _ hm;have hsk:sgn ms (k:Int)=ms[k].sign:=by simp only[sgn,Int.toNat_natCast,hm]
  rw[wv_up h hm hne];by_cases hp:ms[k].parent=i
  ·obtain ⟨j,rfl⟩:=Int.eq_ofNat_of_zero_le hi;have hj:j < ms.length:=by omega
   have hmem:(k:Int)∈partsOf ms (j:Int):=(zgT h).2 ⟨k,_,rfl,hm,hp⟩;have hz:∀ x∈partsOf ms (j:Int),x≠(k:Int)->wv ms x (k:Int)=0:=fun x hx hxk=>by
    obtain ⟨k',m',rfl,hm',hp'⟩:=(zgT h).1 hx;have hu':=h.up _ _ hm';rw[wv_up h hm hxk,hp,wv_above h hj (by omega),mul_zero]
   rw[hp,zee h hj,Int.mul_one,sumP_one (ps:=partsOf ms (j:Int)) (show (partsOf ms (j:Int)).Nodup from zjc _ _) hmem (fun x hx hxk=>by rw[hz x hx hxk,mul_zero]),zee h hk,hsk,Int.mul_one];refine ⟨rfl,fun h0=>⟨_,hmem,by rw[hsk];exact h0,by rw[zee h hk];omega⟩, ?_⟩;rintro ⟨x,hx,h1,h2⟩;by_cases e:x=(k:Int)
   ·subst e;rw[hsk] at h1;exact h1
   ·exact absurd (hz x hx e) h2
  ·have hx:∀ x∈partsOf ms i,wv ms x (k:Int)=ms[k].sign * wv ms x ms[k].parent:=fun x hx=>by
    obtain ⟨k',m',rfl,hm',hp'⟩:=(zgT h).1 hx;refine wv_up h hm fun e=>hp ?_;have:k'=k:=by omega
    subst this;rw[hm] at hm';cases hm';exact hp'
   by_cases hneg:ms[k].parent < 0
   ·rw[wv_neg hneg,mul_zero,zca (fun x hxm=>by rw[hx x hxm,wv_neg hneg,mul_zero,mul_zero])];refine ⟨rfl,fun h0=>absurd rfl h0, ?_⟩;rintro ⟨x,hxm,h1,h2⟩;rw[hx x hxm,wv_neg hneg,mul_zero] at h2;exact absurd rfl h2
   ·obtain ⟨q,hq⟩:=Int.eq_ofNat_of_zero_le (by omega:0<=ms[k].parent);rw[hq] at hx hp hu ⊢;obtain ⟨i1,i2⟩:=ih q (by omega) (by omega) i hi (fun e=>hp e.symm);constructor
    ·rw[i1,← zhO];refine zdF fun x hxm => ?_;rw[hx x hxm,Int.mul_left_comm]
    ·rw[Int.mul_ne_zero_iff,i2];constructor
     ·rintro ⟨h0,x,hxm,h1,h2⟩;exact ⟨x,hxm,h1,by rw[hx x hxm];exact Int.mul_ne_zero h0 h2⟩
     ·rintro ⟨x,hxm,h1,h2⟩;rw[hx x hxm] at h2;exact ⟨(Int.mul_ne_zero_iff.1 h2).1,x,hxm,h1,(Int.mul_ne_zero_iff.1 h2).2⟩
theorem wv_leaf {i:Int} {k:Nat} (hi:0<=i) (hk:k < ms.length) (hp:partsOf ms i=[]):wv ms i (k:Int)=if i=(k:Int) then 1 else 0:=by
 by_cases e:i=(k:Int)
 ·rw[if_pos e,e,zee h hk]
 ·rw[if_neg e,(zhG h k hk i hi e).1,hp];rfl
end
def fac (b:Bool) (d:Dim) (m q:Int):Int:=if b=true then wv d.members m q else if m=q then 1 else 0
def wS (S:Nat->Bool):Nat->List ((Int×Dim)×Int)->Int
 | _,[]=>1
 | i,x :: r=>fac (S i) x.1.2 x.1.1 x.2 * wS S (i+1) r
theorem fac_in {d:Dim} (h:Rooted d.members) (b:Bool) (m q:Int) : -1<=fac b d m q∧fac b d m q<=1:=by
 unfold fac;split
 ·exact wv_in h m q
 ·split<;>omega
theorem wS_in (S:Nat->Bool):∀ (z:List ((Int×Dim)×Int)) (i:Nat),(∀ x∈z,Rooted x.1.2.members) -> -1<=wS S i z∧wS S i z<=1
 | [],_,_=>by simp[wS]
 | x :: r,i,hz=>zcv (fac_in (hz x (by simp)) _ _ _) (wS_in S r (i+1) fun y hy=>hz y (mem_cons_of_mem _ hy))
theorem zhH {S T:Nat->Bool}:∀ (z:List ((Int×Dim)×Int)) (i:Nat),(∀ j,i<=j->j < i+z.length->S j=T j)->wS S i z=wS T i z
 | [],_,_=>rfl
 | x :: r,i,h=>by
  simp only[wS];rw[h i (Nat.le_refl _) (by simp),zhH r (i+1) fun j h1 h2=>h j (by omega) (by simp only[length_cons];omega)]
theorem wS_set:∀ (o:List Dim) (p q:List Int) (dim i0:Nat) (S:Nat->Bool) (d:Dim) (m:Int),p.length=o.length->q.length=o.length->o[dim]? = some d->q[dim]? = some m ->
  ∃ R:Int,∀ (k:Int) (T:Nat->Bool),(∀ i,i≠i0+dim->T i=S i)->wS T i0 (zdD o (p.set dim k) q)=R * fac (T (i0+dim)) d k m
 | [],_,_,dim,_,_,_,_,_,_,h,_=>by simp at h
 | d0 :: o,[],_,_,_,_,_,_,h,_,_,_=>by simp at h
 | d0 :: o,x :: p,[],_,_,_,_,_,_,h,_,_=>by simp at h
 | d0 :: o,x :: p,y :: q,0,i0,S,d,m,h1,h2,hd,hm=>by
  simp at hd hm;subst hd;subst hm;refine ⟨wS S (i0+1) (zdD o p q),fun k T hT => ?_⟩;have e:zdD (d0 :: o) ((x :: p).set 0 k) (y :: q)=((k,d0),y) :: zdD o p q:=rfl;rw[e];simp only[wS,Nat.add_zero];rw[zhH (S:=T) (T:=S) _ _ fun j h3 h4=>hT j (by omega),Int.mul_comm]
 | d0 :: o,x :: p,y :: q,dim+1,i0,S,d,m,h1,h2,hd,hm=>by
  simp only[List.getElem?_cons_succ] at hd hm;obtain ⟨R,hR⟩:=wS_set o p q dim (i0+1) S d m (by simpa using h1) (by simpa using h2) hd hm;refine ⟨fac (S i0) d0 x y * R,fun k T hT => ?_⟩;have e:zdD (d0 :: o) ((x :: p).set (dim+1) k) (y :: q)=((x,d0),y) :: zdD o (p.set dim k) q:=rfl;rw[e];simp only[wS];rw[hR k T fun i hi=>hT i (by omega),hT i0 (by omega),Int.mul_assoc,show i0+1+dim=i0+(dim+1) from by omega]
theorem pw_all:∀ (z:List ((Int×Dim)×Int)) (i:Nat),wS (fun _=>true) i z=(pwL z).getD 0
 | [],_=>rfl
 | x :: r,i=>by
  simp only[wS,pwL,fac,if_true,wv];rw[pw_all r (i+1)];cases wl x.1.2.members x.1.1 (path x.1.2.members x.2) with
  | none=>simp
  | some v=>cases pwL r with
   | none=>simp
   | some u=>simp
def wE (S:Nat->Bool) (o:List Dim) (p:List Int) (e:Entry):Int:=wS S 0 (zdD o p e.at_)
def zat (f:Entry->Int) (l:List Entry):Int:=(l.map fun e=>f e * e.n).sum
def zgB (f:Entry->Int) (l:List Entry):Bool:=l.any fun e=>decide (f e≠0)
def bI (b:Bool):Int:=match b with | true=>1 | false=>0
@[simp] theorem bI_t:bI true=1:=rfl
@[simp] theorem bI_f:bI false=0:=rfl
def zdA (f:Entry->Int) (l:List Entry):Cell:=⟨bI (zgB f l),zat f l⟩
theorem q9 (f:Entry->Int) (e:Entry) (l:List Entry):zat f (e :: l)=f e * e.n+zat f l:=by simp[zat]
theorem ziO {f g:Entry->Int} {l:List Entry} (h:∀ e∈l,f e=g e):zat f l=zat g l:=by
 unfold zat;rw[List.map_congr_left fun e he=>by rw[h e he]]
theorem zcb {f:Entry->Int} {l:List Entry} (h:zgB f l=false):zat f l=0:=by
 induction l with
 | nil=>rfl
 | cons e l ih =>
  simp only[zgB,any_cons,Bool.or_eq_false_iff] at h;have h0:f e=0:=by have:=of_decide_eq_false h.1;omega
  rw[q9,h0,ih h.2];omega
theorem sumE_in {f:Entry->Int} {l:List Entry} (hf:∀ e∈l, -1<=f e∧f e<=1) (hv:∀ e∈l,wY e.n=true) : -1000000 * (l.length:Int)<=zat f l∧zat f l<=1000000 * (l.length:Int):=by
 induction l with
 | nil=>simp[zat]
 | cons e l ih =>
  have ih:=ih (fun x hx=>hf x (mem_cons_of_mem _ hx)) fun x hx=>hv x (mem_cons_of_mem _ hx);have h1:=hf e (by simp);have h2:=hv e (by simp);simp only[wY,and_eq_true,decide_eq_true_eq] at h2;have h3 : -1000000<=f e * e.n∧f e * e.n<=1000000:=by
   rcases (by omega:f e = -1∨f e=0∨f e=1) with e1 | e1 | e1<;>rw[e1]<;>omega
  rw[q9];simp only[length_cons];omega
theorem zek (g:Int->Entry->Int) (s:Int->Int) (ps:List Int):∀ (l:List Entry),zat (fun e=>zej (fun x=>s x * g x e) ps) l=zej (fun x=>s x * zat (g x) l) ps
 | []=>by
  have:∀ x,s x * zat (g x) []=0:=fun x=>by simp[zat]
  rw[zca (fun x _=>this x)];rfl
 | e :: l=>by
  rw[q9,zek g s ps l];clear zek
  induction ps with
  | nil=>simp[zej]
  | cons x r ih =>
   simp only[yn,q9];rw[Int.add_mul,Int.mul_add];have:=ih;rw[show s x * g x e * e.n=s x * (g x e * e.n) from Int.mul_assoc ..];simp only[q9] at this;omega
section
variable {o:List Dim} {dim:Nat} {d:Dim} (ok:OutOk o) (hd:o[dim]? = some d)
include ok hd
theorem zin {cs:List Cell} {n:Nat} {l:List Entry} (g:Int->Entry->Int) (hl:l.length<=20736) (hv:∀ e∈l,wY e.n=true) :
  ∀ (ps:List Int) (b:Bool) (t:Int),(∀ x∈ps,cs.getD (idxK o dim n x) ⟨0,0⟩=zdA (g x) l∧(∀ e∈l, -1<=g x e∧g x e<=1) ∧ -1<=sgn d.members x∧sgn d.members x<=1) ->
   (b=false->t=0)->∀ c:Nat,c+ps.length<=20 -> -20736000000 * (c:Int)<=t->t<=20736000000 * (c:Int) ->
   ps.foldl (comb1 o dim d.members cs n) ⟨bI b,t⟩=⟨bI (b || ps.any fun x=>decide (sgn d.members x≠0) && zgB (g x) l),t+zej (fun x=>sgn d.members x * zat (g x) l) ps⟩
 | [],b,t,_,_,c,_,_,_=>by simp[zej]
 | x :: ps,b,t,hx,hb,c,hc,h1,h2=>by
  obtain ⟨hg,hf,s1,s2⟩:=hx x (by simp);obtain ⟨b1,b2⟩:=sumE_in hf hv;have hin : -20736000000<=zat (g x) l∧zat (g x) l<=20736000000:=by omega
  have hsx:sgn d.members x = -1∨sgn d.members x=0∨sgn d.members x=1:=by omega
  have hse : -20736000000<=sgn d.members x * zat (g x) l∧sgn d.members x * zat (g x) l<=20736000000:=by
   rcases hsx with e | e | e<;>rw[e]<;>omega
  simp only[length_cons] at hc;have step:comb1 o dim d.members cs n ⟨bI b,t⟩ x=⟨bI (b || (decide (sgn d.members x≠0) && zgB (g x) l)),t+sgn d.members x * zat (g x) l⟩:=by
   unfold comb1;by_cases e0:sgn d.members x=0
   ·rw[if_pos e0,e0];simp
   ·rw[if_neg e0,hg];unfold wb zdA;have k2:∀ a:Bool,¬ bI a=2:=by intro a;cases a<;>simp
    rw[if_neg (by simp only[k2,or_self,not_false_eq_true])];cases b with
    | false =>
     have ht:=hb rfl;subst ht;cases ha:zgB (g x) l with
     | false=>simp[zcb ha]
     | true =>
      have hw:within (sgn d.members x * zat (g x) l)=true:=by unfold within;simp only[and_eq_true,decide_eq_true_eq];omega
      simp only[Int.zero_add];rw[qX (n:=sgn d.members x * zat (g x) l) (by omega) (by omega),qX (by omega) (by omega)];simp[e0,qS,hw]
    | true =>
     have hw:within (t+sgn d.members x * zat (g x) l)=true:=by unfold within;simp only[and_eq_true,decide_eq_true_eq];omega
     rw[qX (n:=sgn d.members x * zat (g x) l) (by omega) (by omega)];show (if _ then _ else qS (wi (t+sgn d.members x * zat (g x) l)))=_
     rw[qX (by omega) (by omega)];simp[e0,qS,hw]
  rw[List.foldl_cons,step,zin g hl hv ps _ _ (fun y hy=>hx y (mem_cons_of_mem _ hy)) ?_ (c+1) (by omega) (by omega) (by omega)]
  ·simp only[any_cons,yn,Bool.or_assoc,Int.add_assoc]
  ·intro hbf;simp only[Bool.or_eq_false_iff,Bool.and_eq_false_iff] at hbf;have ht:=hb hbf.1;rcases hbf.2 with h3 | h3
   ·have:sgn d.members x=0:=by have:=of_decide_eq_false h3;omega
    rw[ht,this];omega
   ·rw[ht,zcb h3];omega
theorem zi9 {p:List Int} (hf:Fit o p) (hl:zbO o p=true) {q:Int} (hq:p[dim]? = some q):0<=q∧q < d.members.length∧partsOf d.members q=[]:=by
 have hr:=hf.mem dim q d hq hd;refine ⟨hr.1,hr.2, ?_⟩;have hz:(p.zip o)[dim]? = some (q,d):=List.getElem?_zip_eq_some.2 ⟨hq,hd⟩;have:=List.all_eq_true.1 hl _ (List.mem_of_getElem? hz);unfold yZ at this;obtain ⟨k,rfl⟩:=Int.eq_ofNat_of_zero_le hr.1;simp only[Int.toNat_natCast] at this;rw[getElem?_eq_getElem (by omega)] at this;simp only[and_eq_true,decide_eq_true_eq] at this;exact this.2
end
theorem wS_none:∀ (o:List Dim) (p q:List Int) (i:Nat),p.length=o.length->q.length=o.length->wS (fun _=>false) i (zdD o p q)=if p=q then 1 else 0
 | [],[],[],_,_,_=>rfl
 | [],_ :: _,_,_,h,_=>by simp at h
 | [],[],_ :: _,_,_,h=>by simp at h
 | _ :: _,[],_,_,h,_=>by simp at h
 | _ :: _,_ :: _,[],_,_,h=>by simp at h
 | d :: o,x :: p,y :: q,i,h1,h2=>by
  have e:zdD (d :: o) (x :: p) (y :: q)=((x,d),y) :: zdD o p q:=rfl;rw[e];simp only[wS,fac];rw[wS_none o p q (i+1) (by simpa using h1) (by simpa using h2)];by_cases c1:x=y
  ·by_cases c2:p=q
   ·simp[c1,c2]
   ·simp[c1,c2]
  ·simp[c1]
theorem ziq (f:Entry->Int):∀ (l:List Entry) (p:List Int),Ris l->(∀ e∈l,wY e.n=true)->(∀ e∈l,f e=if p=e.at_ then 1 else 0) ->
  zdA f l=match l.find? (fun e=>decide (e.at_=p)) with | some e=>qS e.n | none=>⟨0,0⟩
 | [],p,_,_,_=>rfl
 | e :: l,p,hr,hv,hf=>by
  have hr':=List.pairwise_cons.1 hr;have ih:=ziq f l p hr'.2 (fun x hx=>hv x (mem_cons_of_mem _ hx)) fun x hx=>hf x (mem_cons_of_mem _ hx);have h0:=hf e (by simp);by_cases c:e.at_=p
  ·have hz:∀ x∈l,f x=0:=fun x hx=>by
    rw[hf x (mem_cons_of_mem _ hx),if_neg];intro e2;have:=hr'.1 x hx;rw[c,e2,zaR] at this;omega
   have ha:zgB f l=false:=by
    unfold zgB;rw[List.any_eq_false];intro x hx;simp[hz x hx]
   rw[if_pos c.symm] at h0;have hw:=hv e (by simp);have hw:within e.n=true:=by
    unfold wY at hw;unfold within;simp only[and_eq_true,decide_eq_true_eq] at hw ⊢;omega
   simp only[List.find?_cons,c,decide_true];unfold zdA qS;rw[q9,h0,zcb ha,if_pos hw];simp[zgB,h0]
  ·rw[if_neg (fun e2=>c e2.symm)] at h0;simp only[List.find?_cons,c,decide_false];rw[← ih];unfold zdA;rw[q9,h0];simp[zgB,h0]
theorem roll_cell {o:List Dim} {p:List Int} {l:List Entry} (hr:∀ e∈l,∀ x∈zdD o p e.at_,Rooted x.1.2.members) (hv:∀ e∈l,wY e.n=true):∀ (b:Bool) (t:Int) (c:Nat),c+l.length<=30000 -> -1000000 * (c:Int)<=t->t<=1000000 * (c:Int) ->
  l.foldl (addE o p) (bI b,t)=(bI (b || zgB (wE (fun _=>true) o p) l),t+zat (wE (fun _=>true) o p) l):=by
 induction l with
 | nil=>intro b t c _ _ _;simp[zgB,zat]
 | cons e l ih =>
  intro b t c hc h1 h2;have hw:wE (fun _=>true) o p e=(pwL (zdD o p e.at_)).getD 0:=pw_all _ 0;have hin : -1<=wE (fun _=>true) o p e∧wE (fun _=>true) o p e<=1:=wS_in _ _ 0 (hr e (by simp));have hn:=hv e (by simp);simp only[wY,and_eq_true,decide_eq_true_eq] at hn;have h3 : -1000000<=wE (fun _=>true) o p e * e.n∧wE (fun _=>true) o p e * e.n<=1000000:=by
   rcases (by omega:wE (fun _=>true) o p e = -1∨wE (fun _=>true) o p e=0∨wE (fun _=>true) o p e=1) with e1 | e1 | e1<;>rw[e1]<;>omega
  simp only[length_cons] at hc;have step:addE o p (bI b,t) e=(bI (b || decide (wE (fun _=>true) o p e≠0)),t+wE (fun _=>true) o p e * e.n):=by
   unfold addE;rw[hw] at h3 ⊢;cases hpw:pwL (zdD o p e.at_) with
   | none=>simp
   | some w =>
    rw[hpw] at h3;simp only[Option.getD_some] at h3 ⊢;by_cases w0:w=0
    ·simp[w0]
    ·rw[qX (n:=w * e.n) (by omega) (by omega),qX (by omega) (by omega)];simp[w0]
  rw[List.foldl_cons,step,ih (fun x hx=>hr x (mem_cons_of_mem _ hx)) (fun x hx=>hv x (mem_cons_of_mem _ hx)) _ _ (c+1) (by omega) (by omega) (by omega),q9];simp only[zgB,any_cons,Bool.or_assoc,Int.add_assoc]
theorem roll_eq {o:List Dim} {p:List Int} {l:List Entry} (eo:EntsOk o l):(⟨(zdr o l p).1,(zdr o l p).2⟩:Cell)=zdA (wE (fun _=>true) o p) l:=by
 have:=roll_cell (o:=o) (p:=p) (l:=l) (fun e he x hx=>by
  obtain ⟨i,hi⟩:=List.mem_iff_getElem?.1 hx;exact (eo.out.dims _ (List.mem_of_getElem? (zav hi).2.1)).rooted) eo.val false 0 0 (by have:=eo.len;omega) (by omega) (by omega)
 unfold zdr;have e0:((bI false,0):Int×Int)=(0,0):=rfl;rw[← e0,this];simp[zdA]
end Ab
