import Derived.Test.YtkaifdgeigdbhaaGreatDoorS2
set_option linter.all false
namespace Ab
open Go
section
def wi_swap (s x y:Int):wi (wi (s+x)+y)=wi (wi (s+y)+x):=by simp only[wi,IntKind.wrap,IntKind.bits,IntKind.signed];simp;omega
def add_comm2 (o:List Dim) (p:List Int) (c:Int×Int) (e f:Entry):zgh o p (zgh o p c e) f=zgh o p (zgh o p c f) e:=by
 unfold zgh;cases pwL (zbG o p e.at_) with
 | none=>cases pwL (zbG o p f.at_)<;>rfl
 | some w =>
  cases pwL (zbG o p f.at_) with
  | none=>rfl
  | some v =>
   by_cases hw:w=0
   ·simp[hw]
   ·by_cases hv:v=0
    ·simp[hw,hv]
    ·simp only[hw,hv,if_false];rw[wi_swap]
def zjB (o:List Dim) (p:List Int) (e:Entry):∀ (l:List Entry) (c:Int×Int),l.foldl (zgh o p) (zgh o p c e)=zgh o p (l.foldl (zgh o p) c) e
 | [],c=>rfl
 | f :: l,c=>by
  simp only[Bw];rw[add_comm2,zjB o p e l]
def roll_ins (o:List Dim) (p:List Int) (e:Entry) (a b:List Entry):zcF o (a++e :: b) p=zgh o p (zcF o (a++b) p) e:=by unfold zcF;rw[Dk,Dk,Bw,zjB]
end
section
def wt:∀ {l:List Int},(∀ x∈l,0<=x)->0<=l.sum∧∀ x∈l,x<=l.sum
 | [],_=>⟨by simp,by simp⟩
 | b :: l,h=>by
  obtain ⟨h1,h2⟩:=wt (l:=l) fun x hx=>h x (by simp[hx]);have hb:=h b (by simp);simp only[B4];refine ⟨by omega,fun x hx => ?_⟩;rcases Ar.1 hx with rfl | hx
  ·omega
  ·have:=h2 x hx;omega
def zdQ {n:Int} {m:Nat} (hm:0 < m) (hn:0<=n):∀ i:Nat,i<=m->((qL n m).take i).sum=(i:Int) * (n / (m:Int))+if (i:Int)<=n % (m:Int) then (i:Int) else n % (m:Int)
 | 0,_=>by
  have:=Cf n (show (m:Int)≠0 by omega);simp[this]
 | i+1,h=>by
  have hr:=Cf n (show (m:Int)≠0 by omega);rw[wB _ i _ (zby (n:=n) (show i < m by omega)),zdQ hm hn i (by omega)];rw[show ((i+1:Nat):Int)=(i:Int)+1 by omega,C7,CO]
  split<;>split<;>split<;>omega
def zjl {n:Int} {m:Nat} (hm:0 < m) (hn:0<=n):(qL n m).sum=n:=by have h:=zdQ hm hn m (AF _);rw[Bf (by rw[qF];exact AF _)] at h;have h1:=CH n (show 0 < (m:Int) by omega);have h2:=C0 n (m:Int);rw[h,if_neg (by omega)];exact h2
def zfU {n:Int} {m:Nat} (hn:0<=n):∀ x∈qL n m,0<=x:=by
 intro x hx;obtain ⟨i,hi,rfl⟩:=Al.1 hx;have:=Cy hn (show 0<=(m:Int) by omega)
 split<;>omega
section
variable {n:Int} {w:List Int}
def set_sum:∀ (l:List Int) (i:Nat) (v x:Int),l[i]? = some x->(l.set i v).sum=l.sum+(v - x)
 | [],_,_,_,h=>by simp at h
 | a :: l,0,v,x,h=>by simp at h;subst h;simp;omega
 | a :: l,i+1,v,x,h=>by
  simp only[List.set_cons_succ,B4,set_sum l i v x (by simpa using h)];omega
def zhE:∀ (is out:List Int),(∀ i∈is,0<=i∧i < out.length)->(yA out is).sum=out.sum+is.length
 | [],out,_=>by simp[yA]
 | i :: is,out,h=>by
  have hi:=h i (by simp);have hg:out[i.toNat]? = some (out.getD i.toNat 0):=by simp[List.getD,show i.toNat < out.length by omega]
  show (yA (bump out i) is).sum=_;rw[zhE is (bump out i) fun j hj=>by rw[zjz];exact h j (by simp[hj])];unfold bump;rw[set_sum out _ _ _ hg];simp only[As,Cx,CZ];omega
def zed:∀ (is out:List Int) (i:Nat) (x:Int),is.Nodup->(∀ j∈is,0<=j)->out[i]? = some x->(yA out is)[i]? = some (x+if (i:Int)∈is then 1 else 0)
 | [],out,i,x,_,_,h=>by simpa[yA] using h
 | j :: is,out,i,x,hn,hp,h=>by
  obtain ⟨h1,h2⟩:=BM.1 hn;have hj:=hp j (by simp);show (yA (bump out j) is)[i]? = _;have nR:=(Ac.1 h).1;by_cases e:j=(i:Int)
  ·subst e;rw[zed is (bump out (i:Int)) i (x+1) h2 (fun k hk=>hp k (by simp[hk])) (by obtain ⟨_,rfl⟩:=Ac.1 h;simp[bump,List.getD,nR])];simp[h1]
  ·rw[zed is (bump out j) i x h2 (fun k hk=>hp k (by simp[hk])) (by unfold bump;rw[B7 (by omega)];exact h)];have:¬ (i:Int)=j:=fun c=>e c.symm;simp[this]
def zgZ {key:Int->Int} {Z:List Int} (h:Ord key Z):Z.Nodup:=List.Pairwise.imp (fun h e=>by subst e;exact zbE h) h
def oW {α:Type} [DecidableEq α] (f:α->Int):∀ {a b:List α},a.Nodup->b.Nodup->(∀ x,x∈a↔x∈b)->(a.map f).sum=(b.map f).sum
 | [],b,_,_,h=>by
  have:b=[]:=Ay.2 fun x hx=>by simpa using (h x).2 hx
  rw[this]
 | x :: a,b,ha,hb,h=>by
  obtain ⟨h1,h2⟩:=BM.1 ha;obtain ⟨s,t,rfl⟩:=List.append_of_mem ((h x).1 (by simp));have aq:(s++t).Nodup∧x ∉ s++t:=by
   have:=Di.1 hb;obtain ⟨q1,q2,q3⟩:=this;obtain ⟨q4,q5⟩:=BM.1 q2;refine ⟨Di.2 ⟨q1,q5,fun y hy z hz=>q3 y hy z (by simp[hz])⟩,fun hm => ?_⟩;rcases Aj.1 hm with hm | hm
   ·exact q3 x hm x (by simp) rfl
   ·exact q4 hm
  have ih:=oW f (b:=s++t) h2 aq.1 fun y=>by
   have hy:=h y;simp only[Ar,Aj] at hy ⊢;constructor
   ·intro hm;rcases hy.1 (.inr hm) with q | q | q
    ·exact .inl q
    ·subst q;exact absurd hm h1
    ·exact .inr q
   ·intro hm;rcases hy.2 (hm.elim .inl fun q=>.inr (.inr q)) with q | q
    ·subst q;exact absurd (Aj.2 hm) aq.2
    ·exact q
  simp only[Aq,B4,Bc,List.sum_append] at ih ⊢;omega
def idx_keys (h:LikeOk n w):((idx w.length).map (zeJ n w)).sum=wM n w * w.sum:=by
 rw[left_eq];congr 1;refine CN fun i => ?_;by_cases hi:i < w.length
 ·simp[idx,hi,zeJ,List.getD]
 ·rw[Bo (by simp[idx];omega),Bo (by simp;omega)]
def pick_pos (h:LikeOk n w) {Z:List Int} (hZ:Srt (zeJ n w) Z (idx w.length)) {x:Int} (hx:x∈Z.take (wM n w).toNat):0 < zeJ n w x:=by
 obtain ⟨s1,s2⟩:=h.spos;obtain ⟨t1,t2⟩:=h.left;have zl:Z.length=w.length:=by rw[hZ.2.1,ir]
 have cU:(Z.map (zeJ n w)).sum=wM n w * w.sum:=(by rw[← idx_keys h];exact oW _ (zgZ hZ.1) ((idx_up _).imp fun h=>by omega) hZ.2.2);have kb:∀ y,0<=zeJ n w y∧zeJ n w y<=w.sum - 1:=fun y=>(by unfold zeJ;have:=CH (n * w.getD y.toNat 0) s1;exact ⟨Cf _ (by omega),by omega⟩);obtain ⟨k,hk,rfl⟩:=List.mem_take_iff_getElem.1 hx;rcases Int.lt_or_eq_of_le (kb Z[k]).1 with g | g
 ·exact g
 ·exfalso
  -- all behind it lack nothing either
  have zero:∀ y∈Z.drop k,zeJ n w y=0:=by
   intro y hy;obtain ⟨j,hj,rfl⟩:=Bx hy;simp at hj;rw[Dj];cases j with
   | zero=>exact g.symm
   | succ j =>have:=ord_get hZ.1 (show k < k+(j+1) by omega) (by omega);have q:=(kb (Z[k+(j+1)]'(by omega))).1;rcases this with h1 | ⟨h1,_⟩<;>omega
  have e:Z=Z.take k++Z.drop k:=(Cm k Z).symm;rw[e,Bc,List.sum_append] at cU;have hz:((Z.drop k).map (zeJ n w)).sum=0:=(by have:=zcl (l:=(Z.drop k).map (zeJ n w)) (M:=0) fun y hy=>(by obtain ⟨u,hu,rfl⟩:=Al.1 hy;rw[zero u hu];omega);omega);have ht:=zcl (l:=(Z.take k).map (zeJ n w)) (M:=w.sum - 1) fun y hy=>(by obtain ⟨u,hu,rfl⟩:=Al.1 hy;exact kb u);have fR:(((Z.take k).map (zeJ n w)).length:Int)<=k:=by simp;omega
  have hm1:(((Z.take k).map (zeJ n w)).length:Int) * (w.sum - 1)<=(k:Int) * (w.sum - 1):=Int.mul_le_mul_of_nonneg_right fR (by omega);have hkt:(k:Int)+1<=wM n w:=by omega
  have gK:((k:Int)+1) * w.sum<=wM n w * w.sum:=Int.mul_le_mul_of_nonneg_right hkt (by omega);rw[Int.mul_sub (k:Int),Int.mul_one] at hm1;rw[C7,CO] at gK;omega
structure Share (n:Int) (w r:List Int):Prop where
 len:r.length=w.length
 sum:r.sum=n
 part:∀ (i:Nat) (x k:Int),r[i]? = some x->w[i]? = some k->0<=x∧x<=n ∧ -w.sum < x * w.sum - n * k∧x * w.sum - n * k < w.sum
def pj (h:LikeOk n w):Share n w (yb n w).1:=by
 have hZ:=ordL_ok h;obtain ⟨s1,s2⟩:=h.spos;obtain ⟨t1,t2⟩:=h.left;have zl:(ordL n w).length=w.length:=by rw[hZ.2.1,ir]
 have inb:∀ i∈(ordL n w).take (wM n w).toNat,0<=i∧i < w.length:=fun i hi=>zij.1 ((hZ.2.2 i).1 (Bg hi));unfold yb;rw[if_pos (zaX.2 h)];refine ⟨by rw[zbC];simp[flo], ?_,fun i x k hx hk => ?_⟩
 ·rw[zhE _ _ fun i hi=>by have:=inb i hi;simpa[flo] using this];simp only[A4];unfold wM at t1 t2 ⊢;omega
 ·have hf:=flo_get (n:=n) hk;have hg:=zed ((ordL n w).take (wM n w).toNat) (flo n w) i _ ((zgZ hZ.1).sublist (List.take_sublist _ _)) (fun j hj=>(inb j hj).1) hf;have e:=Option.some.inj (hx.symm.trans hg);have iH:=Ad hk;obtain ⟨p1,p2⟩:=h.prod iH;have b9:=(wt fun x hx=>(h.wv x hx).1).2 k iH;have q0:=Cy p1 (show 0<=w.sum by omega);have em:=C0 (n * k) w.sum;have r0:=Cf (n * k) (show w.sum≠0 by omega);have r1:=CH (n * k) s1;have nk:n * k<=n * w.sum:=Int.mul_le_mul_of_nonneg_left b9 h.n0.1;rw[Int.mul_comm w.sum] at em;have q1:n * k / w.sum<=n:=Int.le_of_mul_le_mul_right (show n * k / w.sum * w.sum<=n * w.sum by omega) s1;by_cases hm:(i:Int)∈(ordL n w).take (wM n w).toNat
  ·rw[if_pos hm] at e;have hp:=pick_pos h hZ hm;unfold zeJ at hp;have kN:w.getD (i:Int).toNat 0=k:=by simp[List.getD,hk]
   rw[kN] at hp;have q2:n * k / w.sum < n:=Int.lt_of_mul_lt_mul_right (show n * k / w.sum * w.sum < n * w.sum by omega) (by omega);rw[e,C7,CO];refine ⟨by omega,by omega,by omega,by omega⟩
  ·rw[if_neg hm,Int.add_zero] at e;rw[e];refine ⟨q0,q1,by omega,by omega⟩
end
end
section
def zdb:∀ {l:List Entry} {q:List Int} {n:Int},zcM l q=some n->∃ e∈l,e.at_=q
 | [],_,_,h=>by simp[zcM] at h
 | e :: l,q,n,h=>by
  simp only[zcM] at h;split at h
  ·obtain ⟨f,h1,h2⟩:=zdb h;exact ⟨f,by simp[h1],h2⟩
  ·split at h
   ·rename_i c;exact ⟨e,by simp,cmpL_eq c⟩
   ·cases h
def was_cons {e:Entry} {b:List Entry} (hr:Ris (e :: b)) (q:List Int):zbH (e :: b) q=if q=e.at_ then e.n else zbH b q:=by
 obtain ⟨h1,h2⟩:=Bl.1 hr;unfold zbH;simp only[zcM];by_cases c1:cmpL e.at_ q < 0
 ·have:¬ q=e.at_:=fun h=>by rw[h,jf] at c1;omega
  rw[if_pos c1,if_neg this]
 ·rw[if_neg c1];by_cases c2:cmpL e.at_ q=0
  ·rw[if_pos c2,if_pos (cmpL_eq c2).symm];rfl
  ·rw[if_neg c2,if_neg (fun h=>c2 (by rw[h];exact jf _))];have hq:=zdc c1 c2;cases hg:zcM b q with
   | none=>rfl
   | some k =>obtain ⟨f,f1,f2⟩:=zdb hg;have:=jV hq (h1 f f1);rw[f2,jf] at this;omega
def was_self {e:Entry} {b:List Entry} (hr:Ris (e :: b)):zbH b e.at_=0:=by
 obtain ⟨h1,h2⟩:=Bl.1 hr;unfold zbH;cases hg:zcM b e.at_ with
 | none=>rfl
 | some k =>obtain ⟨f,f1,f2⟩:=zdb hg;have:=h1 f f1;rw[f2,jf] at this;omega
def sum_one {α:Type} [DecidableEq α] (f:α->Int) (a:α) (v:Int):∀ (L:List α),L.Nodup->(L.map fun q=>if q=a then v else f q).sum=(L.map f).sum+if a∈L then v - f a else 0
 | [],_=>by simp
 | q :: L,h=>by
  obtain ⟨h1,h2⟩:=BM.1 h;simp only[Aq,B4,sum_one f a v L h2];by_cases e:q=a
  ·subst e;simp[h1];omega
  ·have:¬ a=q:=fun h=>e h.symm;simp only[if_neg e,Ar,this,false_or];omega
def pg {o:List Dim} {p:List Int} (ok:OutOk o) (hf:Fit o p):(zm o p).Nodup:=by rw[← zax ok hf];have aT:∀ d∈o,0 < d.members.length:=fun d hd=>(ok.dims d hd).len.1;refine List.Pairwise.sublist List.filter_sublist ?_;rw[Dh];refine List.Pairwise.imp_of_mem (fun {a b} ha hb ll he => ?_) List.pairwise_lt_range;have h1:=zfX aT (A9.1 ha);have h2:=zfX aT (A9.1 hb);rw[he,h2] at h1;omega
def leaf_iff {o:List Dim} {p q:List Int} (ok:OutOk o) (hf:Fit o p) (hq:Fit o q) (hl:yw o q=true):q∈zm o p↔(pwL (zbG o p q)).isSome=true:=by refine ⟨fun h=>(zdH ok hf h).2.2,fun h => ?_⟩;rw[← zax ok hf];have aT:∀ d∈o,0 < d.members.length:=fun d hd=>(ok.dims d hd).len.1;refine BH.2 ⟨Al.2 ⟨dG o q,A9.2 ?_,by rw[lQ aT hq]⟩,by simp[zbZ,hl,h]⟩;exact lD hq
section
variable {o:List Dim} {p:List Int} (ok:OutOk o) (hf:Fit o p) (hw:∀ q∈zm o p,(pwR (zbG o p q)).1=1)
include ok hf hw
def roll_sum:∀ {l:List Entry},Ris l->(∀ e∈l,Fit o e.at_∧yw o e.at_=true∧wS e.n=true)->l.length<=20736 ->
  zcF o l p=(if l.any (fun e=>decide (e.at_∈zm o p))=true then 1 else 0,((zm o p).map (zbH l)).sum) ∧ -((l.length:Int) * 1000000)<=((zm o p).map (zbH l)).sum∧((zm o p).map (zbH l)).sum<=(l.length:Int) * 1000000:=by
 intro l
 induction l with
 | nil =>
  intro _ _ _;have:((zm o p).map (zbH [])).sum=0:=by
   have:∀ L:List (List Int),(L.map (zbH [])).sum=0:=fun L=>by
    induction L with
    | nil=>rfl
    | cons q L ih=>simp only[Aq,B4,ih];rfl
   exact this _
  rw[this];exact ⟨rfl,by simp,by simp⟩
 | cons e b ih =>
  intro hr he hl;obtain ⟨h1,h2⟩:=Bl.1 hr;obtain ⟨i1,i2,i3⟩:=ih h2 (fun x hx=>he x (by simp[hx])) (by simp at hl;omega);obtain ⟨e1,e2,e3⟩:=he e (by simp);have e4 : -1000000<=e.n∧e.n<=1000000:=by simpa[wS] using e3
  have hc:zbH (e :: b)=fun q=>if q=e.at_ then e.n else zbH b q:=funext fun q=>was_cons hr q;have cU:((zm o p).map (zbH (e :: b))).sum=((zm o p).map (zbH b)).sum+if e.at_∈zm o p then e.n else 0:=by
   rw[hc,sum_one (zbH b) e.at_ e.n _ (pg ok hf),was_self hr,Int.sub_zero];by_cases hm:e.at_∈zm o p
   ·rw[if_pos hm,if_pos hm]
   ·rw[if_neg hm,if_neg hm]
  have kv:zcF o (e :: b) p=zgh o p (zcF o b p) e:=roll_ins o p e [] b;simp only[As] at hl ⊢;rw[cU,kv,i1];by_cases hm:e.at_∈zm o p
  ·have gw:=hw _ hm;have hs:=(zdH ok hf hm).2.2;obtain ⟨w,mZ⟩:=Option.isSome_iff_exists.1 hs;simp only[pwR,mZ] at gw;subst gw;have ha:∀ c:Int×Int,zgh o p c e=(1,wi (c.2+wi e.n)):=fun c=>(by unfold zgh;rw[mZ];simp);rw[if_pos hm,ha];refine ⟨?_,by omega,by omega⟩;rw[zN (n:=e.n) (by omega) (by omega),zN (by simp only;omega) (by simp only;omega)];simp[hm]
  ·have hs:pwL (zbG o p e.at_)=none:=by
    cases hp:pwL (zbG o p e.at_) with
    | none=>rfl
    | some w=>exact absurd ((leaf_iff ok hf e1 e2).2 (by rw[hp];rfl)) hm
   have ha:∀ c:Int×Int,zgh o p c e=c:=fun c=>(by unfold zgh;rw[hs]);rw[ha,if_neg hm];refine ⟨?_,by omega,by omega⟩;simp[hm]
end
def ed_all {o:List Dim}:∀ (L:List (List Int)) (r:List Int) (l:List Entry) (i:Nat),L.length=r.length->L.Nodup->(∀ q∈L,jB o q=0∧yw o q=true)->(∀ k∈r,wS k=true) ->
  (edL o l (yh L r) i).2.2=0∧(∀ (j:Nat) (q:List Int) (k:Int),L[j]? = some q->r[j]? = some k->zcM (edL o l (yh L r) i).1 q=some k)∧∀ q,q ∉ L->zcM (edL o l (yh L r) i).1 q=zcM l q
 | [],[],l,i,_,_,_,_=>⟨rfl,by simp,fun _ _=>rfl⟩
 | [],_ :: _,_,_,h,_,_,_=>by simp at h
 | _ :: _,[],_,_,h,_,_,_=>by simp at h
 | q :: L,k :: r,l,i,hl,hn,hq,hk=>by
  obtain ⟨n1,n2⟩:=BM.1 hn;obtain ⟨q1,q2⟩:=hq q (by simp);have hd:doL o l ⟨q,k,false⟩=(zfz l q k,0):=(by unfold doL;simp[q1,q2,hk k (by simp)]);have e:edL o l (yh (q :: L) (k :: r)) i=edL o (zfz l q k) (yh L r) (i+1):=(by show edL o l (⟨q,k,false⟩ :: yh L r) i=_;simp only[edL,hd,if_true]);obtain ⟨a1,a2,a3⟩:=ed_all L r (zfz l q k) (i+1) (by simpa using hl) n2 (fun x hx=>hq x (by simp[hx])) (fun x hx=>hk x (by simp[hx]));rw[e];refine ⟨a1,fun j x y hx hy => ?_,fun x hx => ?_⟩
  ·cases j with
   | zero =>simp at hx hy;subst hx hy;rw[a3 q n1];exact zcz l q k
   | succ j=>exact a2 j x y (by simpa using hx) (by simpa using hy)
  ·simp only[Ar,not_or] at hx;rw[a3 x hx.2,zbw l k (fun h=>hx.1 h.symm)]
end
end Ab
