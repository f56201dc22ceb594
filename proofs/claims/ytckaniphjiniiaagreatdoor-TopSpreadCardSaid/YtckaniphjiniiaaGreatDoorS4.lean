import Derived.Test.YtckaniphjiniiaaGreatDoorS2
set_option linter.all false
namespace Ab
open Go
section
def wi_swap (s x y:Int):wi (wi (s+x)+y)=wi (wi (s+y)+x):=by simp only[wi,IntKind.wrap,IntKind.bits,IntKind.signed];simp;omega
def add_comm2 (o:List Dim) (p:List Int) (c:Int×Int) (e f:Entry):zhC o p (zhC o p c e) f=zhC o p (zhC o p c f) e:=by
 unfold zhC;cases pwL (wZ o p e.at_) with
 | none=>cases pwL (wZ o p f.at_)<;>rfl
 | some w =>
  cases pwL (wZ o p f.at_) with
  | none=>rfl
  | some v =>
   by_cases hw:w=0
   ·simp[hw]
   ·by_cases hv:v=0
    ·simp[hw,hv]
    ·simp only[hw,hv,if_false];rw[wi_swap]
def zlN (o:List Dim) (p:List Int) (e:Entry):∀(l:List Entry) (c:Int×Int),l.foldl (zhC o p) (zhC o p c e)=zhC o p (l.foldl (zhC o p) c) e
 | [],c=>rfl
 | f::l,c=>by
  simp only[Be];rw[add_comm2,zlN o p e l]
def roll_ins (o:List Dim) (p:List Int) (e:Entry) (a b:List Entry):zcr o (a++e::b) p=zhC o p (zcr o (a++b) p) e:=by unfold zcr;rw[DJ,DJ,Be,zlN]
end
section
def zaW:∀ {l:List Int},(∀x∈l,0<=x)->0<=l.sum∧∀x∈l,x<=l.sum
 | [],_=>⟨by simp,by simp⟩
 | b::l,h=>by
  obtain⟨h1,h2⟩:=zaW (l:=l) fun x hx=>h x (by simp[hx]);have hb:=h b (by simp);simp only[B6];refine⟨by omega,fun x hx => ?_⟩;rcases Ar.1 hx with rfl|hx
  ·omega
  ·have:=h2 x hx;omega
def ziX {n:Int} {m:Nat} (hm:0<m) (hn:0<=n):∀i:Nat,i<=m->((yT n m).take i).sum=(i:Int)*(n/(m:Int))+if (i:Int)<=n%(m:Int) then (i:Int) else n%(m:Int)
 | 0,_=>by
  have:=CO n (show (m:Int)≠0 by omega);simp[this]
 | i+1,h=>by
  have hr:=CO n (show (m:Int)≠0 by omega);rw[zkT _ i _ (ziY (n:=n) (show i<m by omega)),ziX hm hn i (by omega)];rw[show ((i+1:Nat):Int)=(i:Int)+1 by omega,C5,C3]
  split<;>split<;>split<;>omega
def even_sum {n:Int} {m:Nat} (hm:0<m) (hn:0<=n):(yT n m).sum=n:=by have h:=ziX hm hn m (Az _);rw[Bx (by rw[wW];exact Az _)] at h;have h1:=CY n (show 0<(m:Int) by omega);have h2:=Dm n (m:Int);rw[h,if_neg (by omega)];exact h2
def even_pos {n:Int} {m:Nat} (hn:0<=n):∀x∈yT n m,0<=x:=by
 intro x hx;obtain⟨i,hi,rfl⟩:=Al.1 hx;have:=CP hn (show 0<=(m:Int) by omega)
 split<;>omega
section
variable {n:Int} {w:List Int}
def set_sum:∀(l:List Int) (i:Nat) (v x:Int),l[i]? = some x->(l.set i v).sum=l.sum+(v-x)
 | [],_,_,_,h=>by simp at h
 | a::l,0,v,x,h=>by simp at h;subst h;simp;omega
 | a::l,i+1,v,x,h=>by
  simp only[CU,B6,set_sum l i v x (by simpa using h)];omega
def zje:∀(is out:List Int),(∀i∈is,0<=i∧i<out.length)->(yV out is).sum=out.sum+is.length
 | [],out,_=>by simp[yV]
 | i::is,out,h=>by
  have hi:=h i (by simp);have hg:out[i.toNat]? = some (out.getD i.toNat 0):=by simp[List.getD,show i.toNat<out.length by omega]
  show (yV (zkw out i) is).sum=_;rw[zje is (zkw out i) fun j hj=>by rw[zlK];exact h j (by simp[hj])];unfold zkw;rw[set_sum out _ _ _ hg];simp only[Ax,CN,Dk];omega
def oc:∀(is out:List Int) (i:Nat) (x:Int),is.Nodup->(∀j∈is,0<=j)->out[i]? = some x->(yV out is)[i]? = some (x+if (i:Int)∈is then 1 else 0)
 | [],out,i,x,_,_,h=>by simpa[yV] using h
 | j::is,out,i,x,hn,hp,h=>by
  obtain⟨h1,h2⟩:=BS.1 hn;have hj:=hp j (by simp);show (yV (zkw out j) is)[i]? = _;have pO:=(Ac.1 h).1;by_cases e:j=(i:Int)
  ·subst e;rw[oc is (zkw out (i:Int)) i (x+1) h2 (fun k hk=>hp k (by simp[hk])) (by obtain⟨_,rfl⟩:=Ac.1 h;simp[zkw,List.getD,pO])];simp[h1]
  ·rw[oc is (zkw out j) i x h2 (fun k hk=>hp k (by simp[hk])) (by unfold zkw;rw[Cr (by omega)];exact h)];have:¬(i:Int)=j:=fun c=>e c.symm;simp[this]
def ziq {key:Int->Int} {Z:List Int} (h:Ord key Z):Z.Nodup:=List.Pairwise.imp (fun h e=>by subst e;exact zce h) h
def zkZ {α:Type} [DecidableEq α] (f:α->Int):∀ {a b:List α},a.Nodup->b.Nodup->(∀x,x∈a↔x∈b)->(a.map f).sum=(b.map f).sum
 | [],b,_,_,h=>by
  have:b=[]:=AF.2 fun x hx=>by simpa using (h x).2 hx
  rw[this]
 | x::a,b,ha,hb,h=>by
  obtain⟨h1,h2⟩:=BS.1 ha;obtain⟨s,t,rfl⟩:=List.append_of_mem ((h x).1 (by simp));have aw:(s++t).Nodup∧x∉s++t:=by
   have:=DH.1 hb;obtain⟨q1,q2,q3⟩:=this;obtain⟨q4,q5⟩:=BS.1 q2;refine⟨DH.2 ⟨q1,q5,fun y hy z hz=>q3 y hy z (by simp[hz])⟩,fun hm => ?_⟩;rcases Aj.1 hm with hm|hm
   ·exact q3 x hm x (by simp) rfl
   ·exact q4 hm
  have ih:=zkZ f (b:=s++t) h2 aw.1 fun y=>by
   have hy:=h y;simp only[Ar,Aj] at hy ⊢;constructor
   ·intro hm;rcases hy.1 (.inr hm) with q|q|q
    ·exact .inl q
    ·subst q;exact absurd hm h1
    ·exact .inr q
   ·intro hm;rcases hy.2 (hm.elim .inl fun q=>.inr (.inr q)) with q|q
    ·subst q;exact absurd (Aj.2 hm) aw.2
    ·exact q
  simp only[Aw,B6,Bc,List.sum_append] at ih ⊢;omega
def idx_keys (h:LikeOk n w):((idx w.length).map (zfz n w)).sum=zaj n w*w.sum:=by
 rw[left_eq];congr 1;refine C2 fun i => ?_;by_cases hi:i<w.length
 ·simp[idx,hi,zfz,List.getD]
 ·rw[Bu (by simp[idx];omega),Bu (by simp;omega)]
def pick_pos (h:LikeOk n w) {Z:List Int} (hZ:Srt (zfz n w) Z (idx w.length)) {x:Int} (hx:x∈Z.take (zaj n w).toNat):0<zfz n w x:=by
 obtain⟨s1,s2⟩:=h.spos;obtain⟨t1,t2⟩:=h.left;have zl:Z.length=w.length:=by rw[hZ.2.1,zcE]
 have cR:(Z.map (zfz n w)).sum=zaj n w*w.sum:=(by rw[←idx_keys h];exact zkZ _ (ziq hZ.1) ((idx_up _).imp fun h=>by omega) hZ.2.2);have kb:∀y,0<=zfz n w y∧zfz n w y<=w.sum-1:=fun y=>(by unfold zfz;have:=CY (n*w.getD y.toNat 0) s1;exact⟨CO _ (by omega),by omega⟩);obtain⟨k,hk,rfl⟩:=C0.1 hx;rcases Int.lt_or_eq_of_le (kb Z[k]).1 with g|g
 ·exact g
 ·exfalso
  -- all behind it lack nothing either
  have zero:∀y∈Z.drop k,zfz n w y=0:=by
   intro y hy;obtain⟨j,hj,rfl⟩:=Bz hy;simp at hj;rw[DI];cases j with
   | zero=>exact g.symm
   | succ j =>have:=ord_get hZ.1 (show k<k+(j+1) by omega) (by omega);have q:=(kb (Z[k+(j+1)]'(by omega))).1;rcases this with h1|⟨h1,_⟩<;>omega
  have e:Z=Z.take k++Z.drop k:=(Cp k Z).symm;rw[e,Bc,List.sum_append] at cR;have hz:((Z.drop k).map (zfz n w)).sum=0:=(by have:=zfJ (l:=(Z.drop k).map (zfz n w)) (M:=0) fun y hy=>(by obtain⟨u,hu,rfl⟩:=Al.1 hy;rw[zero u hu];omega);omega);have ht:=zfJ (l:=(Z.take k).map (zfz n w)) (M:=w.sum-1) fun y hy=>(by obtain⟨u,hu,rfl⟩:=Al.1 hy;exact kb u);have hI:(((Z.take k).map (zfz n w)).length:Int)<=k:=by simp;omega
  have pE:(((Z.take k).map (zfz n w)).length:Int)*(w.sum-1)<=(k:Int)*(w.sum-1):=Int.mul_le_mul_of_nonneg_right hI (by omega);have hkt:(k:Int)+1<=zaj n w:=by omega
  have gb:((k:Int)+1)*w.sum<=zaj n w*w.sum:=Int.mul_le_mul_of_nonneg_right hkt (by omega);rw[Int.mul_sub (k:Int),Int.mul_one] at pE;rw[C5,C3] at gb;omega
structure Share (n:Int) (w r:List Int):Prop where
 len:r.length=w.length
 sum:r.sum=n
 part:∀(i:Nat) (x k:Int),r[i]? = some x->w[i]? = some k->0<=x∧x<=n ∧ -w.sum<x*w.sum-n*k∧x*w.sum-n*k<w.sum
def zmp (h:LikeOk n w):Share n w (zdp n w).1:=by
 have hZ:=ordL_ok h;obtain⟨s1,s2⟩:=h.spos;obtain⟨t1,t2⟩:=h.left;have zl:(ordL n w).length=w.length:=by rw[hZ.2.1,zcE]
 have inb:∀i∈(ordL n w).take (zaj n w).toNat,0<=i∧i<w.length:=fun i hi=>nV.1 ((hZ.2.2 i).1 (BT hi));unfold zdp;rw[if_pos (zcy.2 h)];refine⟨by rw[zcc];simp[flo], ?_,fun i x k hx hk => ?_⟩
 ·rw[zje _ _ fun i hi=>by have:=inb i hi;simpa[flo] using this];simp only[A3];unfold zaj at t1 t2 ⊢;omega
 ·have hf:=flo_get (n:=n) hk;have hg:=oc ((ordL n w).take (zaj n w).toNat) (flo n w) i _ ((ziq hZ.1).sublist (List.take_sublist _ _)) (fun j hj=>(inb j hj).1) hf;have e:=Option.some.inj (hx.symm.trans hg);have kZ:=Ae hk;obtain⟨p1,p2⟩:=h.prod kZ;have cN:=(zaW fun x hx=>(h.wv x hx).1).2 k kZ;have q0:=CP p1 (show 0<=w.sum by omega);have em:=Dm (n*k) w.sum;have r0:=CO (n*k) (show w.sum≠0 by omega);have r1:=CY (n*k) s1;have nk:n*k<=n*w.sum:=Int.mul_le_mul_of_nonneg_left cN h.n0.1;rw[Int.mul_comm w.sum] at em;have q1:n*k/w.sum<=n:=Int.le_of_mul_le_mul_right (show n*k/w.sum*w.sum<=n*w.sum by omega) s1;by_cases hm:(i:Int)∈(ordL n w).take (zaj n w).toNat
  ·rw[if_pos hm] at e;have hp:=pick_pos h hZ hm;unfold zfz at hp;have ij:w.getD (i:Int).toNat 0=k:=by simp[List.getD,hk]
   rw[ij] at hp;have q2:n*k/w.sum<n:=Int.lt_of_mul_lt_mul_right (show n*k/w.sum*w.sum<n*w.sum by omega) (by omega);rw[e,C5,C3];refine⟨by omega,by omega,by omega,by omega⟩
  ·rw[if_neg hm,Int.add_zero] at e;rw[e];refine⟨q0,q1,by omega,by omega⟩
end
end
section
def zdN:∀ {l:List Entry} {q:List Int} {n:Int},bB l q=some n->∃e∈l,e.at_=q
 | [],_,_,h=>by simp[bB] at h
 | e::l,q,n,h=>by
  simp only[bB] at h;split at h
  ·obtain⟨f,h1,h2⟩:=zdN h;exact⟨f,by simp[h1],h2⟩
  ·split at h
   ·rename_i c;exact⟨e,by simp,cmpL_eq c⟩
   ·cases h
def was_cons {e:Entry} {b:List Entry} (hr:Ris (e::b)) (q:List Int):zch (e::b) q=if q=e.at_ then e.n else zch b q:=by
 obtain⟨h1,h2⟩:=Br.1 hr;unfold zch;simp only[bB];by_cases c1:cmpL e.at_ q<0
 ·have:¬q=e.at_:=fun h=>by rw[h,qM] at c1;omega
  rw[if_pos c1,if_neg this]
 ·rw[if_neg c1];by_cases c2:cmpL e.at_ q=0
  ·rw[if_pos c2,if_pos (cmpL_eq c2).symm];rfl
  ·rw[if_neg c2,if_neg (fun h=>c2 (by rw[h];exact qM _))];have hq:=zdO c1 c2;cases hg:bB b q with
   | none=>rfl
   | some k =>obtain⟨f,f1,f2⟩:=zdN hg;have:=jD hq (h1 f f1);rw[f2,qM] at this;omega
def was_self {e:Entry} {b:List Entry} (hr:Ris (e::b)):zch b e.at_=0:=by
 obtain⟨h1,h2⟩:=Br.1 hr;unfold zch;cases hg:bB b e.at_ with
 | none=>rfl
 | some k =>obtain⟨f,f1,f2⟩:=zdN hg;have:=h1 f f1;rw[f2,qM] at this;omega
def sum_one {α:Type} [DecidableEq α] (f:α->Int) (a:α) (v:Int):∀(L:List α),L.Nodup->(L.map fun q=>if q=a then v else f q).sum=(L.map f).sum+if a∈L then v-f a else 0
 | [],_=>by simp
 | q::L,h=>by
  obtain⟨h1,h2⟩:=BS.1 h;simp only[Aw,B6,sum_one f a v L h2];by_cases e:q=a
  ·subst e;simp[h1];omega
  ·have:¬a=q:=fun h=>e h.symm;simp only[if_neg e,Ar,this,false_or];omega
def sQ {o:List Dim} {p:List Int} (ok:OutOk o) (hf:Fit o p):(zo o p).Nodup:=by rw[←zaX ok hf];have aO:∀d∈o,0<d.members.length:=fun d hd=>(ok.dims d hd).len.1;refine List.Pairwise.sublist List.filter_sublist ?_;rw[CA];refine List.Pairwise.imp_of_mem (fun {a b} ha hb gh he => ?_) Df;have h1:=zhf aO (AR.1 ha);have h2:=zhf aO (AR.1 hb);rw[he,h2] at h1;omega
def leaf_iff {o:List Dim} {p q:List Int} (ok:OutOk o) (hf:Fit o p) (hq:Fit o q) (hl:jX o q=true):q∈zo o p↔(pwL (wZ o p q)).isSome=true:=by refine⟨fun h=>(zew ok hf h).2.2,fun h => ?_⟩;rw[←zaX ok hf];have aO:∀d∈o,0<d.members.length:=fun d hd=>(ok.dims d hd).len.1;refine BH.2 ⟨Al.2 ⟨zci o q,AR.2 ?_,by rw[yd aO hq]⟩,by simp[zcB,hl,h]⟩;exact zdc hq
section
variable {o:List Dim} {p:List Int} (ok:OutOk o) (hf:Fit o p) (hw:∀q∈zo o p,(pwR (wZ o p q)).1=1)
include ok hf hw
def roll_sum:∀ {l:List Entry},Ris l->(∀e∈l,Fit o e.at_∧jX o e.at_=true∧jP e.n=true)->l.length<=20736 ->
  zcr o l p=(if l.any (fun e=>decide (e.at_∈zo o p))=true then 1 else 0,((zo o p).map (zch l)).sum) ∧ -((l.length:Int)*1000000)<=((zo o p).map (zch l)).sum∧((zo o p).map (zch l)).sum<=(l.length:Int)*1000000:=by
 intro l
 induction l with
 | nil =>
  intro _ _ _;have:((zo o p).map (zch [])).sum=0:=by
   have:∀L:List (List Int),(L.map (zch [])).sum=0:=fun L=>by
    induction L with
    | nil=>rfl
    | cons q L ih=>simp only[Aw,B6,ih];rfl
   exact this _
  rw[this];exact⟨rfl,by simp,by simp⟩
 | cons e b ih =>
  intro hr he hl;obtain⟨h1,h2⟩:=Br.1 hr;obtain⟨i1,i2,i3⟩:=ih h2 (fun x hx=>he x (by simp[hx])) (by simp at hl;omega);obtain⟨e1,e2,e3⟩:=he e (by simp);have e4 : -1000000<=e.n∧e.n<=1000000:=by simpa[jP] using e3
  have hc:zch (e::b)=fun q=>if q=e.at_ then e.n else zch b q:=funext fun q=>was_cons hr q;have cR:((zo o p).map (zch (e::b))).sum=((zo o p).map (zch b)).sum+if e.at_∈zo o p then e.n else 0:=by
   rw[hc,sum_one (zch b) e.at_ e.n _ (sQ ok hf),was_self hr,Int.sub_zero];by_cases hm:e.at_∈zo o p
   ·rw[if_pos hm,if_pos hm]
   ·rw[if_neg hm,if_neg hm]
  have lZ:zcr o (e::b) p=zhC o p (zcr o b p) e:=roll_ins o p e [] b;simp only[Ax] at hl ⊢;rw[cR,lZ,i1];by_cases hm:e.at_∈zo o p
  ·have iF:=hw _ hm;have hs:=(zew ok hf hm).2.2;obtain⟨w,oW⟩:=Option.isSome_iff_exists.1 hs;simp only[pwR,oW] at iF;subst iF;have ha:∀c:Int×Int,zhC o p c e=(1,wi (c.2+wi e.n)):=fun c=>(by unfold zhC;rw[oW];simp);rw[if_pos hm,ha];refine⟨?_,by omega,by omega⟩;rw[zR (n:=e.n) (by omega) (by omega),zR (by simp only;omega) (by simp only;omega)];simp[hm]
  ·have hs:pwL (wZ o p e.at_)=none:=by
    cases hp:pwL (wZ o p e.at_) with
    | none=>rfl
    | some w=>exact absurd ((leaf_iff ok hf e1 e2).2 (by rw[hp];rfl)) hm
   have ha:∀c:Int×Int,zhC o p c e=c:=fun c=>(by unfold zhC;rw[hs]);rw[ha,if_neg hm];refine⟨?_,by omega,by omega⟩;simp[hm]
end
def ed_all {o:List Dim}:∀(L:List (List Int)) (r:List Int) (l:List Entry) (i:Nat),L.length=r.length->L.Nodup->(∀q∈L,jv o q=0∧jX o q=true)->(∀k∈r,jP k=true) ->
  (edL o l (yG L r) i).2.2=0∧(∀(j:Nat) (q:List Int) (k:Int),L[j]? = some q->r[j]? = some k->bB (edL o l (yG L r) i).1 q=some k)∧∀q,q∉L->bB (edL o l (yG L r) i).1 q=bB l q
 | [],[],l,i,_,_,_,_=>⟨rfl,by simp,fun _ _=>rfl⟩
 | [],_::_,_,_,h,_,_,_=>by simp at h
 | _::_,[],_,_,h,_,_,_=>by simp at h
 | q::L,k::r,l,i,hl,hn,hq,hk=>by
  obtain⟨n1,n2⟩:=BS.1 hn;obtain⟨q1,q2⟩:=hq q (by simp);have hd:doL o l ⟨q,k,false⟩=(zgN l q k,0):=(by unfold doL;simp[q1,q2,hk k (by simp)]);have e:edL o l (yG (q::L) (k::r)) i=edL o (zgN l q k) (yG L r) (i+1):=(by show edL o l (⟨q,k,false⟩::yG L r) i=_;simp only[edL,hd,if_true]);obtain⟨a1,a2,a3⟩:=ed_all L r (zgN l q k) (i+1) (by simpa using hl) n2 (fun x hx=>hq x (by simp[hx])) (fun x hx=>hk x (by simp[hx]));rw[e];refine⟨a1,fun j x y hx hy => ?_,fun x hx => ?_⟩
  ·cases j with
   | zero =>simp at hx hy;subst hx hy;rw[a3 q n1];exact zdh l q k
   | succ j=>exact a2 j x y (by simpa using hx) (by simpa using hy)
  ·simp only[Ar,not_or] at hx;rw[a3 x hx.2,ta l k (fun h=>hx.1 h.symm)]
end
section
def sF {o:List Dim} {l:List Entry} {p:List Int} {n:Int} (h:(zO o l p n).2=0) :
  ∃r:List Int,(zO o l p n).1=yG (zo o p) r∧r.length=(zo o p).length∧r.sum=n∧(∀k∈r,0<=k)∧0<=n∧n<=1000000∧EntsOk o l∧Fit o p∧0<(zo o p).length∧(zo o p).length<=60∧∀q∈zo o p,(pwR (wZ o p q)).1=1:=by
 unfold zO at h ⊢;by_cases hc:jj o l=0
 case neg=>rw[if_neg hc] at h;exact absurd h hc
 rw[if_pos hc] at h ⊢;by_cases hf:jv o p=0
 case neg=>rw[if_neg hf] at h;exact absurd h hf
 rw[if_pos hf] at h ⊢;have aK:EntsOk o l:=zaG.1 (by unfold jj at hc;split at hc<;>first|exact hc|(rename_i g;exact absurd hc g))
 by_cases h3:(zo o p).length=0∨(zo o p).any (fun q => !decide ((pwR (wZ o p q)).1=1))=true
 ·rw[if_pos h3] at h;cases h
 rw[if_neg h3] at h ⊢;obtain⟨h31,h32⟩:=not_or.1 h3;by_cases iv:60<(zo o p).length
 ·rw[if_pos iv] at h;cases h
 rw[if_neg iv] at h ⊢;simp only at h ⊢;have hw:∀q∈zo o p,(pwR (wZ o p q)).1=1:=fun q hq=>(by have:=h32;simp only[BX,not_exists,not_and] at this;simpa using this q hq);obtain⟨r,hr⟩:∃r,(if ((zo o p).map (zch l)).any (fun k=>decide (0<k))=true∧((zo o p).map (zch l)).any (fun k=>decide (k<0))=false then zdp n ((zo o p).map (zch l)) else zdu n (zo o p).length)=r:=⟨_,rfl⟩
 rw[hr] at h ⊢;by_cases hz:r.2=0
 case neg=>rw[if_neg hz] at h;exact absurd h hz
 rw[if_pos hz];have facts:r.1.length=(zo o p).length∧r.1.sum=n∧(∀k∈r.1,0<=k)∧0<=n∧n<=1000000:=by
  subst hr;split at hz
  ·rename_i c;rw[if_pos c];have hE:gm n ((zo o p).map (zch l))=0:=by
    unfold zdp at hz;split at hz
    ·rename_i g;exact g
    ·exact hz
   have sh:=zmp (zcy.1 hE);refine⟨by rw[sh.len];simp,sh.sum,fun k hk => ?_,(zcy.1 hE).n0.1,(zcy.1 hE).n0.2⟩;obtain⟨i,hi,rfl⟩:=Bz hk;exact (sh.part i _ _ (Aa hi) (Aa (by rw[←sh.len];exact hi))).1
  ·rename_i c;rw[if_neg c];unfold zdu at hz ⊢;split at hz
   ·rename_i g;rw[if_pos g];have hn:=j9.1 g.1;simp only[Ap];exact⟨wW _ _,even_sum (by omega) hn.1,even_pos hn.1,hn.1,hn.2⟩
   ·cases hz
 exact⟨r.1,rfl,facts.1,facts.2.1,facts.2.2.1,facts.2.2.2.1,facts.2.2.2.2,aK,jB.1 hf,by omega,by omega,hw⟩
def n8 {o:List Dim} {l:List Entry} {p:List Int} {n:Int} (h:(zO o l p n).2=0) :
  zfD o l=0∧(zdl o l (zO o l p n).1).2.2=0∧EntsOk o (zdl o l (zO o l p n).1).1∧Fit o p∧zcr o (zdl o l (zO o l p n).1).1 p=(1,n)∧within n=true:=by
 obtain⟨r,r1,r2,r3,r4,n0,n1,aK,fit,l0,l60,hw⟩:=sF h;have he:=zaG.2 aK;have hrv:∀k∈r,jP k=true:=fun k hk=>(by have h1:=r4 k hk;have h2:=(zaW r4).2 k hk;simp only[jP,Ai,decide_eq_true_eq];omega);have hq:∀q∈zo o p,jv o q=0∧jX o q=true:=fun q hq=>(by obtain⟨a,b,_⟩:=zew aK.out fit hq;exact⟨jB.2 a,b⟩);have el:(yG (zo o p) r).length=(zo o p).length:=by simp[yG];omega
 obtain⟨a1,a2,a3⟩:=ed_all (zo o p) r l 0 r2.symm (sQ aK.out fit) hq hrv;have hall:zdl o l (zO o l p n).1=edL o l (yG (zo o p) r) 0:=(by unfold zdl;rw[r1,if_neg (by rw[el];omega),if_pos he]);rw[hall];have iD:=(ed_ok (o:=o) (xs:=yG (zo o p) r) (l:=l) (i:=0) aK).1 a1;refine⟨he,a1,iD,fit, ?_, ?_⟩
 ·obtain⟨b1,_,_⟩:=roll_sum iD.out fit hw iD.ris (fun e hm=>⟨iD.fit e hm,iD.leaf e hm,iD.val e hm⟩) iD.len;have oV:(zo o p).map (zch (edL o l (yG (zo o p) r) 0).1)=r:=by
   refine C2 fun i => ?_;by_cases hi:i<(zo o p).length
   ·have hk:=Aa (show i<r.length by omega);have g:=a2 i _ _ (Aa hi) hk;rw[As,Aa hi,hk];simp[zch,g,zkq]
   ·rw[Bu (by simp;omega),Bu (by omega)]
  rw[b1,oV,r3];have hg:=a2 0 _ _ (Aa l0) (Aa (show 0<r.length by omega));obtain⟨e,e1,e2⟩:=zdN hg;rw[if_pos (BX.2 ⟨e,e1,by rw[decide_eq_true_eq,e2];exact Ay l0⟩)]
 ·unfold within;simp only[Ai,decide_eq_true_eq];omega
end
end Ab
