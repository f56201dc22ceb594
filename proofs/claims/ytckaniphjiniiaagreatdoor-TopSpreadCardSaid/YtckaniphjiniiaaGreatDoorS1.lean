import Derived.Test.YtckaniphjiniiaaGreatDoorMSb
set_option linter.all false
namespace Ab
open Go
section
def swp (l:List Int) (i j:Nat):List Int:=(l.set i (l.getD j 0)).set j (l.getD i 0)
def zaw (l:List Int) (i j:Nat):(swp l i j).length=l.length:=by simp[swp]
def zlp (A B:List Int) (y:Int) (n:Nat) (h:n=A.length):(A++y::B).getD n 0=y:=by subst h;simp[List.getD]
def zjL (A B:List Int) (x y:Int) (n:Nat) (h:n=A.length):(A++y::B).set n x=A++x::B:=by subst h;simp
def zjB (A M B:List Int) (x y:Int) (i j:Nat) (hi:i=A.length) (hj:j=A.length+(M.length+1)):swp (A++x::(M++y::B)) i j=A++y::(M++x::B):=by
 have e:∀z:Int,A++z::(M++y::B)=(A++z::M)++y::B:=fun z=>by simp
 unfold swp;rw[zlp A _ x i hi,zjL A _ _ x i hi,e x,zlp (A++x::M) B y j (by simp[hj]),e y,zjL (A++y::M) B x y j (by simp[hj])];simp
def swp_comm (l:List Int) (i j:Nat) (h:i≠j):swp l i j=swp l j i:=by unfold swp;rw[List.set_comm _ _ (Ne.symm h)]
def zhY (l:List Int) (a b:Nat):Nat->List Int
 | 0=>l
 | n+1=>zhY (swp l a b) (a+1) (b+1) n
def zdC:∀(U V:List Int) (A M B:List Int) (a b n:Nat),U.length=n->V.length=n->a=A.length->b=A.length+(n+M.length)->zhY (A++U++M++V++B) a b n=A++V++M++U++B
 | [],[],A,M,B,a,b,n,hu,hv,ha,hb=>by
  simp at hu;subst hu;rfl
 | [],y::V,_,_,_,_,_,n,hu,hv,_,_=>by simp at hu hv;omega
 | x::U,[],_,_,_,_,_,n,hu,hv,_,_=>by simp at hu hv;omega
 | x::U,y::V,A,M,B,a,b,n,hu,hv,ha,hb=>by
  obtain⟨n,rfl⟩:∃k,n=k+1:=⟨n-1,by simp at hu;omega⟩;simp at hu hv;have h1:swp (A++(x::U)++M++(y::V)++B) a b=(A++[y])++U++(M++[x])++V++B:=(by have:=zjB A (U++M) (V++B) x y a b ha (by rw[hb];simp;omega);simpa using this);show zhY (swp _ a b) (a+1) (b+1) n=_;rw[h1,zdC U V (A++[y]) (M++[x]) B (a+1) (b+1) n hu hv (by simp[ha]) (by simp[hb];omega)];simp
def yb:∀(n:Nat) (l:List Int) (a b:Nat),(zhY l a b n).length=l.length
 | 0,_,_,_=>rfl
 | n+1,l,a,b=>by rw[zhY,yb n,zaw]
def rotR (m:Nat):Nat->List Int->Nat->Nat->List Int
 | 0,l,_,_=>l
 | f+1,l,i,j=>if i=j then zhY l (m-i) m i else if j<i then rotR m f (zhY l (m-i) m j) (i-j) j else rotR m f (zhY l (m-i) (m+j-i) i) i (j-i)
def rotR_app (m:Nat):∀(f:Nat) (U V A B:List Int) (i j:Nat),i+j<=f->0<i->0<j->U.length=i->V.length=j->A.length+i=m->rotR m f (A++U++V++B) i j=A++V++U++B:=by
 intro f
 induction f with
 | zero=>intro U V A B i j h hi;omega
 | succ f ih =>
  intro U V A B i j h hi hj hu hv ha;show (if i=j then _ else _)=_
  by_cases e:i=j
  ·rw[if_pos e];have:=zdC U V A [] B (m-i) m i hu (by omega) (by omega) (by simp;omega);simpa using this
  ·rw[if_neg e];by_cases g:j<i
   ·rw[if_pos g];have hU:U=U.take j++U.drop j:=(Cp j U).symm;have h1:(U.take j).length=j:=by simp;omega
    have h2:(U.drop j).length=i-j:=by simp;omega
    have e1:zhY (A++U++V++B) (m-i) m j=(A++V)++U.drop j++U.take j++B:=(by have:=zdC (U.take j) V A (U.drop j) B (m-i) m j h1 hv (by omega) (by rw[h2];omega);rw[show A++U.take j++U.drop j=A++U by rw[AP,←hU]] at this;simpa using this);rw[e1,ih (U.drop j) (U.take j) (A++V) B (i-j) j (by omega) (by omega) hj h2 h1 (by simp;omega)];simp
   ·rw[if_neg g];have hV:V=V.take (j-i)++V.drop (j-i):=(Cp _ V).symm;have h1:(V.take (j-i)).length=j-i:=by simp;omega
    have h2:(V.drop (j-i)).length=i:=by simp;omega
    have e1:zhY (A++U++V++B) (m-i) (m+j-i) i=A++V.drop (j-i)++V.take (j-i)++(U++B):=(by have:=zdC U (V.drop (j-i)) A (V.take (j-i)) B (m-i) (m+j-i) i hu h2 (by omega) (by rw[h1];omega);rw[show A++U++V.take (j-i)++V.drop (j-i)=A++U++V by rw[AP,←hV]] at this;simpa using this);rw[e1,ih (V.drop (j-i)) (V.take (j-i)) A (U++B) i (j-i) (by omega) hi (by omega) h2 h1 ha];simp
def ahead (key:Int->Int) (i j:Int):Prop:=key j<key i∨(key i=key j∧i<j)
instance {key : Int → Int} {i j : Int} : Decidable (ahead key i j) := by unfold ahead; infer_instance
def qu {key:Int->Int} {i j k:Int} (h:ahead key i j) (g:ahead key j k):ahead key i k:=by unfold ahead at *;omega
def zce {key:Int->Int} {i:Int} (h:ahead key i i):False:=by unfold ahead at h;omega
def ahead_tri {key:Int->Int} {i j:Int} (h:i≠j):ahead key i j∨ahead key j i:=by unfold ahead;omega
def Ord (key:Int->Int) (l:List Int):Prop:=l.Pairwise (ahead key)
def Less (X Y:List Int):Prop:=∀x∈X,∀y∈Y,x<y
def ord_ext {key:Int->Int}:∀ {as bs:List Int},Ord key as->Ord key bs->(∀x,x∈as↔x∈bs)->as=bs
 | [],[],_,_,_=>rfl
 | [],b::bs,_,_,h=>absurd ((h b).2 (by simp)) (by simp)
 | a::as,[],_,_,h=>absurd ((h a).1 (by simp)) (by simp)
 | a::as,b::bs,ha,hb,h=>by
  obtain⟨uc,mI⟩:=Br.1 ha;obtain⟨cr,cO⟩:=Br.1 hb;have e:a=b:=by
   rcases Ar.1 ((h a).1 (by simp)) with e|hm
   ·exact e
   ·rcases Ar.1 ((h b).2 (by simp)) with e|gb
    ·exact e.symm
    ·exact (zce (qu (cr a hm) (uc b gb))).elim
  subst e;congr 1;refine ord_ext mI cO fun x => ?_;have hx:=h x;simp only[Ar] at hx;refine⟨fun hm => ?_,fun hm => ?_⟩
  ·rcases hx.1 (.inr hm) with rfl|gb
   ·exact (zce (uc x hm)).elim
   ·exact gb
  ·rcases hx.2 (.inr hm) with rfl|gb
   ·exact (zce (cr x hm)).elim
   ·exact gb
def shR (l:List Int) (k:Nat):Nat->List Int
 | 0=>l
 | n+1=>shR (swp l k (k+1)) (k+1) n
def shR_app:∀(Y A B:List Int) (x:Int) (k n:Nat),k=A.length->Y.length=n->shR (A++x::(Y++B)) k n=A++Y++x::B
 | [],A,B,x,k,n,ha,hn=>by simp at hn;subst hn;simp[shR]
 | y::Y,A,B,x,k,n,ha,hn=>by
  obtain⟨n,rfl⟩:∃i,n=i+1:=⟨n-1,by simp at hn;omega⟩;simp at hn;have h1:swp (A++x::(y::Y++B)) k (k+1)=(A++[y])++x::(Y++B):=(by have:=zjB A [] (Y++B) x y k (k+1) ha (by simp[ha]);simpa using this);show shR (swp _ k (k+1)) (k+1) n=_;rw[h1,shR_app Y (A++[y]) B x (k+1) n (by simp[ha]) hn];simp
def shL (l:List Int) (k:Nat):Nat->List Int
 | 0=>l
 | n+1=>shL (swp l k (k-1)) (k-1) n
def swp_left (A B:List Int) (z y:Int) (k:Nat) (hk:k=A.length+1):swp (A++z::y::B) k (k-1)=A++y::z::B:=by rw[swp_comm _ _ _ (by omega)];have:=zjB A [] B z y (k-1) k (by omega) (by simp;omega);simpa using this
def shL_app:∀(n:Nat) (X A B:List Int) (y:Int) (k:Nat),k=A.length+X.length->X.length=n->shL (A++X++y::B) k n=A++y::(X++B)
 | 0,X,A,B,y,k,hk,hn=>by
  obtain rfl:=AN.1 hn;simp[shL]
 | n+1,X,A,B,y,k,hk,hn=>by
  obtain⟨X',z,rfl⟩:∃X' z,X=X'++[z]:=⟨X.dropLast,X.getLast (by intro e;simp[e] at hn),(List.dropLast_concat_getLast _).symm⟩;simp at hn hk;have h1:swp (A++(X'++[z])++y::B) k (k-1)=A++X'++y::(z::B):=(by have:=swp_left (A++X') B z y k (by simp;omega);simpa using this);show shL (swp _ k (k-1)) (k-1) n=_;rw[h1,shL_app n X' A (z::B) y (k-1) (by omega) hn];simp
def zcu {key:Int->Int} {X Y:List Int}:Ord key (X++Y)↔Ord key X∧Ord key Y∧∀x∈X,∀y∈Y,ahead key x y:=BD
def zjY {key:Int->Int} {X Y:List Int} {z:Int} (h:Ord key (X++Y)) (h1:∀x∈X,ahead key x z) (h2:∀y∈Y,ahead key z y):Ord key (X++z::Y):=by
 obtain⟨a,b,c⟩:=zcu.1 h;refine zcu.2 ⟨a,Br.2 ⟨h2,b⟩,fun x hx y hy => ?_⟩;rcases Ar.1 hy with rfl|hy
 ·exact h1 x hx
 ·exact c x hx y hy
def ord_get {key:Int->Int} {X:List Int} (h:Ord key X) {i j:Nat} (ld:i<j) (hj:j<X.length):ahead key X[i] X[j]:=(Cw.1 h) i j (by omega) hj ld
def zgd {α:Type} (l:List α) (n:Nat) (h:n<=l.length):∃A B,l=A++B∧A.length=n:=⟨l.take n,l.drop n,(Cp n l).symm,by simp;omega⟩
def zbS {key:Int->Int} {i j:Int} (hn:i≠j) (h:¬ahead key i j):ahead key j i:=by
 rcases ahead_tri (key:=key) hn with g|g
 ·exact (h g).elim
 ·exact g
end
section
def half2 {i j:Nat} (h:i+j<9223372036854775808):wi (IntKind.wrap .u64 (wi ((i:Int)+(j:Int)))/2)=(((i+j)/2:Nat):Int):=by have e:IntKind.wrap .u64 (wi ((i:Int)+(j:Int)))=((i+j:Nat):Int):=(by simp[wi,IntKind.wrap,IntKind.bits,IntKind.signed];omega);rw[e,zR (by omega) (by omega)];omega
def zdB {α:Type} (l:List Int) (i j:Nat) (ei ej:Int) (h1:ei=(i:Int)) (h2:ej=(j:Int)) (hi:i<l.length) (hj:j<l.length) (K:List Int->Option α) :
  (ck (decide (0<=ej∧ej<((List.length l:Nat):Int))) <| bno (l[Int.toNat ej]?) fun y2 =>
   ck (decide (0<=ei∧ei<((List.length l:Nat):Int))) <| bno (l[Int.toNat ei]?) fun y3 =>
   ck (decide (0<=ei∧ei<((List.length l:Nat):Int))) <| bno (l[Int.toNat ei]?) fun y4 =>
   ck (decide (0<=ej∧ej<((List.length (List.set l (Int.toNat ei) y2):Nat):Int))) <| bno ((List.set l (Int.toNat ei) y2)[Int.toNat ej]?) fun y5 =>
   K (List.set (List.set l (Int.toNat ei) y2) (Int.toNat ej) y3))=K (swp l i j):=by
 subst h1 h2;have a1:(0:Int)<=(i:Int)∧(i:Int)<((List.length l:Nat):Int):=by omega
 have a2:(0:Int)<=(j:Int)∧(j:Int)<((List.length l:Nat):Int):=by omega
 have e1:l[i]? = some (l.getD i 0):=by simp[List.getD,hi]
 have e2:l[j]? = some (l.getD j 0):=by simp[List.getD,hj]
 have e3:∃z,(List.set l i (l.getD j 0))[j]? = some z:=⟨_,Aa (by rw[Cc];exact hj)⟩;obtain⟨z,e3⟩:=e3;simp only[Ap,zm a1,zm a2,e1,e2,zj,Cc,e3];rfl
abbrev Cap:=Int×List Int×Int
def S400_eq (c:Cap):∀(n i a b m:Nat) (l:List Int),i+n=m->a+m<=l.length->b+m<=l.length->l.length<4611686018427387904 ->
  lpO (yJ (a:Int) (b:Int) (m:Int)) ((i:Int),l)=some (.inl ((m:Int),zhY l (a+i) (b+i) n)):=by
 intro n
 induction n with
 | zero =>
  intro i a b m l h1 h2 h3 h4;obtain rfl:i=m:=by omega
  exact zF (by simp only[yJ,show ¬((i:Int)<(i:Int)) by omega,decide_false,za,zdv,zhY])
 | succ n ih =>intro i a b m l h1 h2 h3 h4;have hB:yJ (a:Int) (b:Int) (m:Int) ((i:Int),l)=some (.nx (((i+1:Nat):Int),swp l (a+i) (b+i))):=(by simp only[yJ,show (i:Int)<(m:Int) by omega,decide_true,ze];refine (zdB l (a+i) (b+i) (wi ((a:Int)+(i:Int))) (wi ((b:Int)+(i:Int))) (by rw[zR (by omega) (by omega)];omega) (by rw[zR (by omega) (by omega)];omega) (by omega) (by omega) (fun m=>nxO (some (wi ((i:Int)+1),m)))).trans ?_;rw[zR (by omega) (by omega)];rfl);rw[qh hB,ih (i+1) a b m _ (by omega) (by rw[zaw];exact h2) (by rw[zaw];exact h3) (by rw[zaw];exact h4)];rfl
def zkD (c:Cap) (a b n:Nat) (l:List Int) (h2:a+n<=l.length) (h3:b+n<=l.length) (h4:l.length<4611686018427387904):ww l a b n c=some (zhY l a b n):=by unfold ww zhD;rw[zW];have:=S400_eq c n 0 a b n l (by omega) h2 h3 h4;rw[show ((0:Int))=((0:Nat):Int) from rfl,this];rfl
def S399_eq (c:Cap) (m:Nat):∀(f i j:Nat) (l:List Int),i+j<=f->0<i->0<j->i<=m->m+j<=l.length->l.length<4611686018427387904 ->
  ∃(k:Nat) (l':List Int),lpO (jc ww (m:Int) c) ((i:Int),(j:Int),l)=some (.inl ((k:Int),(k:Int),l'))∧l'.length=l.length∧0<k∧k<=m∧m+k<=l.length∧zhY l' (m-k) m k=rotR m f l i j:=by
 intro f
 induction f with
 | zero=>intro i j l h hi;omega
 | succ f ih =>
  intro i j l h hi hj hm hl hb;by_cases e:i=j
  ·subst e;exact⟨i,l,zF (by simp[jc]),rfl,hi,hm,hl,by simp only[rotR,if_true]⟩
  ·have e':¬((i:Int)=(j:Int)):=by omega
   by_cases g:j<i
   ·have g':(j:Int)<(i:Int):=by omega
    have hB:jc ww (m:Int) c ((i:Int),(j:Int),l)=some (.nx (((i-j:Nat):Int),(j:Int),zhY l (m-i) m j)):=by
     simp only[jc,e',not_false_eq_true,decide_true,ze,g'];have w1:wi ((m:Int)-(i:Int))=((m-i:Nat):Int):=by rw[zR (by omega) (by omega)];omega
     have w2:wi ((i:Int)-(j:Int))=((i-j:Nat):Int):=by rw[zR (by omega) (by omega)];omega
     rw[w1,zkD _ _ _ _ _ (by omega) (by omega) hb];simp only[zj,yb,decide_true,jZ,zx,zY,w2,ji]
    obtain⟨k,l',k1,k2,k3,k4,k5,k6⟩:=ih (i-j) j (zhY l (m-i) m j) (by omega) (by omega) hj (by omega) (by rw[yb];exact hl) (by rw[yb];exact hb);rw[yb] at k2 k5;exact⟨k,l',by rw[qh hB,k1],k2,k3,k4,k5,by rw[k6];simp only[rotR,if_neg e,if_pos g]⟩
   ·have g':¬(j:Int)<(i:Int):=by omega
    have hB:jc ww (m:Int) c ((i:Int),(j:Int),l)=some (.nx ((i:Int),((j-i:Nat):Int),zhY l (m-i) (m+j-i) i)):=by
     simp only[jc,e',not_false_eq_true,decide_true,ze,g',decide_false,za];have w1:wi ((m:Int)-(i:Int))=((m-i:Nat):Int):=by rw[zR (by omega) (by omega)];omega
     have w2:wi ((j:Int)-(i:Int))=((j-i:Nat):Int):=by rw[zR (by omega) (by omega)];omega
     have w3:wi (wi ((m:Int)+(j:Int))-(i:Int))=((m+j-i:Nat):Int):=by rw[zR (n:=(m:Int)+(j:Int)) (by omega) (by omega),zR (by omega) (by omega)];omega
     rw[w1,w3,zkD _ _ _ _ _ (by omega) (by omega) hb];simp only[zj,yb,decide_true,jZ,zx,zY,w2,ji]
    obtain⟨k,l',k1,k2,k3,k4,k5,k6⟩:=ih i (j-i) (zhY l (m-i) (m+j-i) i) (by omega) hi (by omega) hm (by rw[yb];omega) (by rw[yb];exact hb);rw[yb] at k2 k5;exact⟨k,l',by rw[qh hB,k1],k2,k3,k4,k5,by rw[k6];simp only[rotR,if_neg e,if_neg g]⟩
def P399_eq (c:Cap) (A U V B:List Int) (a m b:Nat) (ha:a=A.length) (hm:m=A.length+U.length) (hb:b=A.length+U.length+V.length) (hu:0<U.length) (hv:0<V.length) (hl:(A++U++V++B).length<4611686018427387904) :
  yl (A++U++V++B) a m b c=some (A++V++U++B):=by
 have hlen:(A++U++V++B).length=A.length+U.length+V.length+B.length:=by simp;omega
 obtain⟨k,l',k1,k2,k3,k4,k5,k6⟩:=S399_eq c m (U.length+V.length) U.length V.length (A++U++V++B) (by omega) hu hv (by omega) (by omega) hl;rw[rotR_app m _ U V A B _ _ (by omega) hu hv rfl rfl (by omega)] at k6;unfold yl zhE;have w1:wi ((m:Int)-(a:Int))=((U.length:Nat):Int):=by rw[zR (by omega) (by omega)];omega
 have w2:wi ((b:Int)-(m:Int))=((V.length:Nat):Int):=by rw[zR (by omega) (by omega)];omega
 have w3:wi ((m:Int)-(k:Int))=((m-k:Nat):Int):=by rw[zR (by omega) (by omega)];omega
 rw[zW,w1,w2,k1];simp only[zY,w3];rw[zkD _ _ _ _ _ (by omega) (by omega) (by omega),k6];simp only[zj,show (A++V++U++B).length=l'.length by rw[k2,hlen];simp;omega,decide_true,jZ]
def zhX (F:Int->Int->Int->List Int->Int->Option Int) (c:Cap) (key:Int->Int) (D:Int->Prop):Prop :=
 ∀x y,D x->D y->∃k,F x y c.1 c.2.1 c.2.2=some k∧(k<0↔key y<key x)
def zdS {key:Int->Int} {x y:Int} (h:x<y):key x<key y↔ahead key y x:=by unfold ahead;omega
def zhu {β:Type} {B:(Int×Int)->Option (LR (Int×Int) β)} (p:Nat->Prop) (lo hi:Nat)
  (stop:∀i:Nat,B ((i:Int),(i:Int))=some (.dn ((i:Int),(i:Int))))
  (yes:∀i j:Nat,lo<=i->i<j->j<=hi->p ((i+j)/2)->B ((i:Int),(j:Int))=some (.nx ((((i+j)/2+1:Nat):Int),(j:Int))))
  (no:∀i j:Nat,lo<=i->i<j->j<=hi->¬p ((i+j)/2)->B ((i:Int),(j:Int))=some (.nx ((i:Int),(((i+j)/2:Nat):Int))))
  (mono:∀i j,lo<=i->i<=j->j<hi->p j->p i) :
  ∀(n i j:Nat),j-i=n->lo<=i->i<=j->j<=hi->(∀h,lo<=h->h<i->p h)->(∀h,j<=h->h<hi->¬p h) ->
  ∃k:Nat,lpO B ((i:Int),(j:Int))=some (.inl ((k:Int),(k:Int)))∧lo<=k∧k<=hi∧(∀h,lo<=h->h<k->p h)∧(∀h,k<=h->h<hi->¬p h):=by
 intro n
 induction n using Nat.strongRecOn with
 | _ n ih =>
  intro i j hn h1 h2 h3 h4 h5;by_cases e:i=j
  ·subst e;exact⟨i,zF (stop i),h1,h3,h4,h5⟩
  ·by_cases g:p ((i+j)/2)
   ·rw[qh (yes i j h1 (by omega) h3 g)];refine ih (j-((i+j)/2+1)) (by omega) _ j rfl (by omega) (by omega) h3 (fun h a b => ?_) h5;exact mono h ((i+j)/2) a (by omega) (by omega) g
   ·rw[qh (no i j h1 (by omega) h3 g)];refine ih ((i+j)/2-i) (by omega) i _ rfl h1 (by omega) (by omega) h4 (fun h a b q=>g ?_);exact mono ((i+j)/2) h (by omega) a b q
end
section
def zmM (k:Nat):∀(n i:Nat) (l:List Int),i+n+1=k->k<=l.length->l.length<4611686018427387904->lpO (yN ((k:Int),(k:Int))) ((i:Int),l)=some (.inl (((k-1:Nat):Int),shR l i n)):=by
 intro n
 induction n with
 | zero =>
  intro i l h1 h2 h3;obtain rfl:k=i+1:=by omega
  refine zF ?_;have w:wi (((i+1:Nat):Int)-1)=(i:Int):=by rw[zR (by omega) (by omega)];omega
  simp only[yN,w,show ¬((i:Int)<(i:Int)) by omega,decide_false,za,zdv,shR,Cm]
 | succ n ih =>
  intro i l h1 h2 h3;have w:wi ((k:Int)-1)=((k-1:Nat):Int):=by rw[zR (by omega) (by omega)];omega
  have hB:yN ((k:Int),(k:Int)) ((i:Int),l)=some (.nx (((i+1:Nat):Int),swp l i (i+1))):=(by simp only[yN,w,show (i:Int)<((k-1:Nat):Int) by omega,decide_true,ze];refine (zdB l i (i+1) (i:Int) (wi ((i:Int)+1)) rfl (by rw[zR (by omega) (by omega)];omega) (by omega) (by omega) (fun m=>nxO (some (wi ((i:Int)+1),m)))).trans ?_;rw[zR (by omega) (by omega)];rfl);rw[qh hB,ih (i+1) _ (by omega) (by rw[zaw];exact h2) (by rw[zaw];exact h3)];rfl
def zmL (k:Nat):∀(n i:Nat) (l:List Int),k+n=i->i<l.length->l.length<4611686018427387904->lpO (yL ((k:Int),(k:Int))) ((i:Int),l)=some (.inl ((k:Int),shL l i n)):=by
 intro n
 induction n with
 | zero =>
  intro i l h1 h2 h3;obtain rfl:k=i:=by omega
  exact zF (by simp only[yL,show ¬((k:Int)<(k:Int)) by omega,decide_false,za,zdv,shL])
 | succ n ih =>
  intro i l h1 h2 h3;have w:wi ((i:Int)-1)=((i-1:Nat):Int):=by rw[zR (by omega) (by omega)];omega
  have hB:yL ((k:Int),(k:Int)) ((i:Int),l)=some (.nx (((i-1:Nat):Int),swp l i (i-1))):=(by simp only[yL,show (k:Int)<(i:Int) by omega,decide_true,ze];refine (zdB l i (i-1) (i:Int) (wi ((i:Int)-1)) rfl w (by omega) (by omega) (fun m=>nxO (some (wi ((i:Int)-1),m)))).trans ?_;rw[w];rfl);rw[qh hB,ih (i-1) _ (by omega) (by rw[zaw];omega) (by rw[zaw];exact h3)];rfl
def zbx (A X B:List Int) (h:Nat) (h1:A.length<=h) (h2:h<A.length+X.length):(A++X++B)[h]? = some ((A++X++B).getD h 0)∧(A++X++B).getD h 0∈X∧∃hh:h-A.length<X.length,(A++X++B).getD h 0=X[h-A.length]:=by
 have e:(A++X++B)[h]? = some (X[h-A.length]'(by omega)):=(by rw[AG (by simp;omega),AM h1,Aa (by omega)]);have e2:(A++X++B).getD h 0=X[h-A.length]'(by omega):=by simp only[List.getD,e,A7]
 exact⟨by rw[e,e2],by rw[e2];exact Ay _,by omega,e2⟩
def zht {key:Int->Int} {A X B:List Int} (ho:Ord key X) {i j:Nat} (h1:A.length<=i) (ld:i<j) (h2:j<A.length+X.length):ahead key ((A++X++B).getD i 0) ((A++X++B).getD j 0):=by obtain⟨_,_,p1,e1⟩:=zbx A X B i h1 (by omega);obtain⟨_,_,p2,e2⟩:=zbx A X B j (by omega) h2;rw[e1,e2];exact ord_get ho (by omega) p2
def zaM {A X B:List Int} {x:Int} (n m:Nat) (hx:x∈(X.take m).drop n):∃i,A.length+n<=i∧i<A.length+m∧i<A.length+X.length∧(A++X++B).getD i 0=x:=by
 obtain⟨t,ht,rfl⟩:=Bz hx;have h1:n+t<m∧n+t<X.length:=by simp at ht;omega
 obtain⟨_,_,p,e⟩:=zbx A X B (A.length+(n+t)) (by omega) (by omega);exact⟨A.length+(n+t),by omega,by omega,by omega,by rw[e];simp[DI,List.getElem_take]⟩
section
variable {key:Int->Int} {c:Cap} {D:Int->Prop}
def sym_left (hc:zhX zck c key D) (F:List Int->Int->Int->Int->Cap->Option (List Int)) (A Y B:List Int) (x:Int) (a m b:Nat) (ha:a=A.length) (hm:m=A.length+1) (hb:b=A.length+1+Y.length) (hl:(A++[x]++Y++B).length<4611686018427387904)
  (hd:D x∧∀y∈Y,D y) (hle:∀y∈Y,x<y) (ho:Ord key Y) :
  ∃Z,wu zck F yl (A++[x]++Y++B) a m b c=some (A++Z++B)∧Ord key Z∧Z.length=Y.length+1∧∀z,z∈Z↔z=x∨z∈Y:=by
 have hlen:(A++[x]++Y++B).length=A.length+1+Y.length+B.length:=by simp;omega
 have tl:(A++[x]).length=A.length+1:=by simp
 generalize hL:A++[x]++Y++B=L at *;have gx:L[a]? = some x:=by rw[←hL,ha];simp
 have gy:∀h,m<=h->h<b->L[h]? = some (L.getD h 0)∧L.getD h 0∈Y:=fun h h1 h2=>(by have:=zbx (A++[x]) Y B h (by omega) (by omega);rw[hL] at this;exact⟨this.1,this.2.1⟩);have oy:∀i j,m<=i->i<j->j<b->ahead key (L.getD i 0) (L.getD j 0):=fun i j h1 h2 h3=>by
  have:=zht (A:=A++[x]) (B:=B) ho (i:=i) (j:=j) (by omega) h2 (by omega)
  rwa [hL] at this
 have step:∀i j:Nat,m<=i->i<j->j<=b->yO zck L a c ((i:Int),(j:Int))=if ahead key (L.getD ((i+j)/2) 0) x then (some (.nx ((((i+j)/2+1:Nat):Int),(j:Int))):Option (LR (Int×Int) (List Int))) else some (.nx ((i:Int),(((i+j)/2:Nat):Int))):=by
  intro i j h1 h2 h3;obtain⟨g1,g2⟩:=gy ((i+j)/2) (by omega) (by omega);obtain⟨k,k1,k2⟩:=hc _ x (hd.2 _ g2) hd.1;simp only[yO,show (i:Int)<(j:Int) by omega,decide_true,ze,half2 (show i+j<9223372036854775808 by omega)];rw[zm (by omega),Ap,g1,zj,zm (by omega),Ap,gx,zj,k1,zj];have q:=(k2.trans (zdS (hle _ g2)));by_cases hq:ahead key (L.getD ((i+j)/2) 0) x
  ·rw[if_pos hq,show decide (k<0)=true from decide_eq_true (q.2 hq),ze,zx,zY,zR (by omega) (by omega)];rfl
  ·rw[if_neg hq,show decide (k<0)=false from decide_eq_false (fun h=>hq (q.1 h)),za,zx,zY];rfl
 obtain⟨k,k1,k2,k3,k4,k5⟩:=zhu (B:=yO zck L a c) (fun h=>ahead key (L.getD h 0) x) m b (fun i=>by simp only[yO,show ¬((i:Int)<(i:Int)) by omega,decide_false,za,zdv])
  (fun i j h1 h2 h3 h4=>by rw[step i j h1 h2 h3,if_pos h4]) (fun i j h1 h2 h3 h4=>by rw[step i j h1 h2 h3,if_neg h4])
  (fun i j h1 h2 h3 h4=>by
   rcases B8 h2 with h|h
   ·exact qu (oy i j h1 h h3) h4
   ·rw[h];exact h4) (b-m) m b rfl (Az _) (by omega) (Az _) (fun h _ _=>by omega) (fun h _ _=>by omega)
 obtain⟨Y1,Y2,rfl,h1⟩:=zgd Y (k-m) (by omega);have e2:shR L a (k-m)=A++(Y1++x::Y2)++B:=(by have:=shR_app Y1 A (Y2++B) x a (k-m) ha h1;rw[←hL];simpa using this);refine⟨Y1++x::Y2, ?_, ?_,by simp;omega,fun z=>by simp;constructor<;>(intro h;rcases h with h|h|h<;>simp[h])⟩
 ·unfold wu;rw[show wi ((m:Int)-(a:Int))=1 by rw[zR (by omega) (by omega)];omega];simp only[decide_true,ze];rw[zW,k1,zY,zW,zmM k (k-m) a L (by omega) (by omega) hl,zY,e2]
 ·have get:∀z,z∈Y1->ahead key z x:=fun z hz=>by
   obtain⟨i,i1,i2,_,i3⟩:=zaM (A:=A++[x]) (B:=Y2++B) 0 Y1.length (x:=z) (X:=Y1) (by simpa using hz);have:A++[x]++Y1++(Y2++B)=L:=by rw[←hL];simp
   rw[this] at i3;rw[←i3];exact k4 i (by omega) (by omega)
  have kz:∀z,z∈Y2->ahead key x z:=fun z hz=>by
   obtain⟨i,i1,i2,_,i3⟩:=zaM (A:=A++[x]++Y1) (B:=B) 0 Y2.length (x:=z) (X:=Y2) (by simpa using hz);have:A++[x]++Y1++Y2++B=L:=by rw[←hL];simp
   rw[this] at i3;have lS:=hle z (Aj.2 (.inr hz));have:=k5 i (by simp at i1;omega) (by simp at i2 i1 hb;omega);rw[i3] at this;exact zbS (by omega) this
  exact zjY ho get kz
def sym_right (hc:zhX zck c key D) (F:List Int->Int->Int->Int->Cap->Option (List Int)) (A X B:List Int) (y:Int) (a m b:Nat) (ha:a=A.length) (hm:m=A.length+X.length) (hb:b=A.length+X.length+1) (hX:X.length≠1) (hl:(A++X++[y]++B).length<4611686018427387904)
  (hd:D y∧∀x∈X,D x) (hle:∀x∈X,x<y) (ho:Ord key X) :
  ∃Z,wu zck F yl (A++X++[y]++B) a m b c=some (A++Z++B)∧Ord key Z∧Z.length=X.length+1∧∀z,z∈Z↔z∈X∨z=y:=by
 have hlen:(A++X++[y]++B).length=A.length+X.length+1+B.length:=by simp;omega
 generalize hL:A++X++[y]++B=L at *;have gy:L[m]? = some y:=by rw[←hL,hm];simp
 have gx:∀h,a<=h->h<m->L[h]? = some (L.getD h 0)∧L.getD h 0∈X:=fun h h1 h2=>(by have:=zbx A X ([y]++B) h (by omega) (by omega);rw[show A++X++([y]++B)=L by rw[←hL];simp] at this;exact⟨this.1,this.2.1⟩);have ox:∀i j,a<=i->i<j->j<m->ahead key (L.getD i 0) (L.getD j 0):=fun i j h1 h2 h3=>by
  have:=zht (A:=A) (B:=[y]++B) ho (i:=i) (j:=j) (by omega) h2 (by omega)
  rwa [show A++X++([y]++B)=L by rw[←hL];simp] at this
 have step:∀i j:Nat,a<=i->i<j->j<=m->yM zck L m c ((i:Int),(j:Int))=if ¬ahead key y (L.getD ((i+j)/2) 0) then (some (.nx ((((i+j)/2+1:Nat):Int),(j:Int))):Option (LR (Int×Int) (List Int))) else some (.nx ((i:Int),(((i+j)/2:Nat):Int))):=by
  intro i j h1 h2 h3;obtain⟨g1,g2⟩:=gx ((i+j)/2) (by omega) (by omega);obtain⟨k,k1,k2⟩:=hc y _ hd.1 (hd.2 _ g2);simp only[yM,show (i:Int)<(j:Int) by omega,decide_true,ze,half2 (show i+j<9223372036854775808 by omega)];rw[zm (by omega),Ap,gy,zj,zm (by omega),Ap,g1,zj,k1,zj];have q:=(k2.trans (zdS (hle _ g2)));by_cases hq:ahead key y (L.getD ((i+j)/2) 0)
  ·rw[if_neg (fun h=>h hq),show decide (k<0)=true from decide_eq_true (q.2 hq),AW,za,zx,zY];rfl
  ·rw[if_pos hq,show decide (k<0)=false from decide_eq_false (fun h=>hq (q.1 h)),BN,ze,zx,zY,zR (by omega) (by omega)];rfl
 obtain⟨k,k1,k2,k3,k4,k5⟩:=zhu (B:=yM zck L m c) (fun h=>¬ahead key y (L.getD h 0)) a m (fun i=>by simp only[yM,show ¬((i:Int)<(i:Int)) by omega,decide_false,za,zdv])
  (fun i j h1 h2 h3 h4=>by rw[step i j h1 h2 h3,if_pos h4]) (fun i j h1 h2 h3 h4=>by rw[step i j h1 h2 h3,if_neg h4])
  (fun i j h1 h2 h3 h4 h5=>by
   rcases B8 h2 with h|h
   ·exact h4 (qu h5 (ox i j h1 h h3))
   ·rw[h] at h5;exact h4 h5) (m-a) a m rfl (Az _) (by omega) (Az _) (fun h _ _=>by omega) (fun h _ _=>by omega)
 obtain⟨X1,X2,rfl,h1⟩:=zgd X (k-a) (by omega);simp only[AB] at hm hb hX hlen;have e2:shL L m (m-k)=A++(X1++y::X2)++B:=(by have:=shL_app (m-k) X2 (A++X1) B y m (by simp;omega) (by omega);rw[←hL];simpa using this);refine⟨X1++y::X2, ?_, ?_,by simp;omega,fun z=>by simp[or_assoc,or_comm,or_left_comm]⟩
 ·unfold wu;rw[show wi ((m:Int)-(a:Int))=((X1.length+X2.length:Nat):Int) by rw[zR (by omega) (by omega)];omega,show wi ((b:Int)-(m:Int))=1 by rw[zR (by omega) (by omega)];omega];rw[show decide (((X1.length+X2.length:Nat):Int)=1)=false from decide_eq_false (by omega)];simp only[decide_true,ze,za];rw[zW,k1,zY,zW,zmL k (m-k) m L (by omega) (by omega) hl,zY,e2]
 ·have get:∀z,z∈X1->ahead key z y:=fun z hz=>by
   obtain⟨i,i1,i2,_,i3⟩:=zaM (A:=A) (B:=X2++[y]++B) 0 X1.length (x:=z) (X:=X1) (by simpa using hz);have:A++X1++(X2++[y]++B)=L:=by rw[←hL];simp
   rw[this] at i3;have lS:=hle z (Aj.2 (.inl hz));have:=k4 i (by omega) (by omega);rw[i3] at this;exact zbS (by omega) this
  have kz:∀z,z∈X2->ahead key y z:=fun z hz=>by
   obtain⟨i,i1,i2,_,i3⟩:=zaM (A:=A++X1) (B:=[y]++B) 0 X2.length (x:=z) (X:=X2) (by simpa using hz);have:A++X1++X2++([y]++B)=L:=by rw[←hL];simp
   rw[this] at i3;have:=k5 i (by simp at i1;omega) (by simp at i2 i1;omega);rw[i3] at this;exact Decidable.not_not.1 this
  exact zjY ho get kz
end
end
section
section
variable {key:Int->Int} {c:Cap} {D:Int->Prop}
def zkR {F:List Int->Int->Int->Int->Cap->Option (List Int)} (A X Y B:List Int) (a m b:Nat) (ha:a=A.length) (hm:m=A.length+X.length) (hb:b=A.length+X.length+Y.length) (iP:Ord key X) (iO:Ord key Y)
  (hF:0<X.length->0<Y.length->∃Z,F (A++X++Y++B) a m b (c.1,c.2.1,c.2.2)=some (A++Z++B)∧Ord key Z∧Z.length=X.length+Y.length∧∀z,z∈Z↔z∈X∨z∈Y) :
  ∃Z,Ord key Z∧Z.length=X.length+Y.length∧(∀z,z∈Z↔z∈X∨z∈Y)∧∀ {α:Type} (K:List Int->Option α),
   (jn (σ:=Bool) (α:=α) (br (decide ((a:Int)<(m:Int))) (zt (some (decide ((m:Int)<(b:Int))))) (zt (some false))) fun oE =>
    jn (σ:=List Int) (α:=α) (br oE
     (bno (F (A++X++Y++B) a m b (c.1,c.2.1,c.2.2)) fun lF=>ck (decide (List.length lF=List.length (A++X++Y++B))) <| zt (some lF))
     (zt (some (A++X++Y++B)))) K)=K (A++Z++B):=by
 by_cases hx:0<X.length
 ·by_cases hy:0<Y.length
  ·obtain⟨Z,z1,z2,z3,z4⟩:=hF hx hy;refine⟨Z,z2,z3,z4,fun {α} K => ?_⟩;rw[show decide ((a:Int)<(m:Int))=true from decide_eq_true (by omega),ze,zx,zY,show decide ((m:Int)<(b:Int))=true from decide_eq_true (by omega),ze,z1,zj,zm (by simp;omega),zx,zY]
  ·obtain rfl:=AN.1 (by omega:Y.length=0);refine⟨X,iP,by simp,fun z=>by simp,fun {α} K => ?_⟩;rw[show decide ((a:Int)<(m:Int))=true from decide_eq_true (by omega),ze,zx,zY,show decide ((m:Int)<(b:Int))=false from decide_eq_false (by simp at hb;omega),za,zx,zY];simp
 ·obtain rfl:=AN.1 (by omega:X.length=0);refine⟨Y,iO,by simp,fun z=>by simp,fun {α} K => ?_⟩;rw[show decide ((a:Int)<(m:Int))=false from decide_eq_false (by simp at hm;omega),za,zx,zY,za,zx,zY];simp
set_option maxHeartbeats 1600000 in
def sym_all (hc:zhX zck c key D):∀(f:Nat) (A X Y B:List Int) (a m b:Nat),a=A.length->m=A.length+X.length->b=A.length+X.length+Y.length->0<X.length->0<Y.length->X.length+Y.length<=f->(A++X++Y++B).length<4611686018427387904 ->
  (∀x∈X,D x)->(∀y∈Y,D y)->Less X Y->Ord key X->Ord key Y ->
  ∃Z,qW f (A++X++Y++B) a m b c=some (A++Z++B)∧Ord key Z∧Z.length=X.length+Y.length∧∀z,z∈Z↔z∈X∨z∈Y:=by
 intro f
 induction f with
 | zero=>intro A X Y B a m b ha hm hb hx;omega
 | succ f ih =>
  intro A X Y B a m b ha hm hb hx hy hf hl iZ iY hle iP iO;show ∃Z,wu zck (qW f) yl (A++X++Y++B) a m b c=some (A++Z++B)∧_;by_cases c1:X.length=1
  ·obtain⟨x,rfl⟩:=List.length_eq_one_iff.1 c1;obtain⟨Z,z1,z2,z3,z4⟩:=sym_left hc (qW f) A Y B x a m b ha (by simpa using hm) (by simpa using hb) hl ⟨iZ x (by simp),iY⟩ (fun y h=>hle x (by simp) y h) iO;exact⟨Z,z1,z2,by simp;omega,fun z=>by simpa using z4 z⟩
  by_cases c2:Y.length=1
  ·obtain⟨y,rfl⟩:=List.length_eq_one_iff.1 c2;obtain⟨Z,z1,z2,z3,z4⟩:=sym_right hc (qW f) A X B y a m b ha hm (by simpa using hb) c1 hl ⟨iY y (by simp),iZ⟩ (fun x h=>hle x h y (by simp)) iP;exact⟨Z,z1,z2,by simp;omega,fun z=>by simpa using z4 z⟩
  have hlen:(A++X++Y++B).length=A.length+X.length+Y.length+B.length:=by simp;omega
  obtain⟨L,hL⟩:∃L,A++X++Y++B=L:=⟨_,rfl⟩;have uk:A++X++(Y++B)=L:=by rw[←hL];simp
  have uj:A++X++Y++B=L:=hL;have tL:L.length=A.length+X.length+Y.length+B.length:=by rw[←hL,hlen]
  have hlB:L.length<4611686018427387904:=by rw[←hL];exact hl
  have gx:∀h,a<=h->h<m->L[h]? = some (L.getD h 0)∧L.getD h 0∈X:=fun h h1 h2=>(by have:=zbx A X (Y++B) h (by omega) (by omega);rw[uk] at this;exact⟨this.1,this.2.1⟩);have gy:∀h,m<=h->h<b->L[h]? = some (L.getD h 0)∧L.getD h 0∈Y:=fun h h1 h2=>(by have:=zbx (A++X) Y B h (by simp;omega) (by simp;omega);rw[uj] at this;exact⟨this.1,this.2.1⟩);have ox:∀i j,a<=i->i<j->j<m->ahead key (L.getD i 0) (L.getD j 0):=fun i j h1 h2 h3=>by
   have:=zht (A:=A) (B:=Y++B) iP (i:=i) (j:=j) (by omega) h2 (by omega)
   rwa [uk] at this
  have oy:∀i j,m<=i->i<j->j<b->ahead key (L.getD i 0) (L.getD j 0):=fun i j h1 h2 h3=>by
   have:=zht (A:=A++X) (B:=B) iO (i:=i) (j:=j) (by simp;omega) h2 (by simp;omega)
   rwa [uj] at this
  -- the middle,and where the search begins and ends
  obtain⟨mid,iS⟩:∃mid,mid=(a+b)/2:=⟨_,rfl⟩;have wmid:wi (IntKind.wrap .u64 (wi ((a:Int)+(b:Int)))/2)=(mid:Int):=by rw[half2 (by omega),iS]
  have wn:wi ((mid:Int)+(m:Int))=((mid+m:Nat):Int):=by rw[zR (by omega) (by omega)];omega
  have wp:wi (((mid+m:Nat):Int)-1)=((mid+m-1:Nat):Int):=by rw[zR (by omega) (by omega)];omega
  obtain⟨s,r,hs,hsr,hrm,has,cr,hjn⟩:∃s r:Nat,(s=a∨s=mid+m-b)∧s<=r∧((r=m∧s=a∧m<=mid)∨(r=mid∧s=mid+m-b∧mid<m))∧a<=s∧mid+m-1-s<b ∧
    ∀ {α:Type} (K:Int×Int->Option α),(jn (σ:=(Int×Int)) (α:=α) (br (decide ((mid:Int)<(m:Int))) (zt (some (wi (((mid+m:Nat):Int)-(b:Int)),(mid:Int)))) (zt (some ((a:Int),(m:Int))))) K)=K ((s:Int),(r:Int)):=by
   by_cases g:mid<m
   ·refine⟨mid+m-b,mid,.inr rfl,by omega,.inr ⟨rfl,rfl,g⟩,by omega,by omega,fun {α} K => ?_⟩;rw[show decide ((mid:Int)<(m:Int))=true from decide_eq_true (by omega),ze,zx,zY,zR (by omega) (by omega)];congr 2;omega
   ·refine⟨a,m,.inl rfl,by omega,.inl ⟨rfl,rfl,by omega⟩,Az _,by omega,fun {α} K => ?_⟩;rw[show decide ((mid:Int)<(m:Int))=false from decide_eq_false (by omega),za,zx,zY]
  have eN:r<=m:=by omega
  have step:∀i j:Nat,s<=i->i<j->j<=r->yK zck L a m b c ((i:Int),(j:Int))=if ¬ahead key (L.getD (mid+m-1-(i+j)/2) 0) (L.getD ((i+j)/2) 0) then (some (.nx ((((i+j)/2+1:Nat):Int),(j:Int))):Option (LR (Int×Int) (List Int))) else some (.nx ((i:Int),(((i+j)/2:Nat):Int))):=by
   intro i j h1 h2 h3;have iW:=half2 (i:=i) (j:=j) (by omega);have hi:i<=(i+j)/2∧(i+j)/2<j:=by omega
   generalize (i+j)/2=h at iW hi ⊢;have q1:m<=mid+m-1-h:=by omega
   have q2:mid+m-1-h<b:=by omega
   obtain⟨g1,g2⟩:=gx (h) (by omega) (by omega);obtain⟨g3,g4⟩:=gy (mid+m-1-h) q1 q2;obtain⟨k,k1,k2⟩:=hc _ _ (iY _ g4) (iZ _ g2);have w4:wi (((mid+m-1:Nat):Int)-((h:Nat):Int))=((mid+m-1-h:Nat):Int):=by rw[zR (by omega) (by omega)];omega
   simp only[yK,show (i:Int)<(j:Int) by omega,decide_true,ze,iW,wmid,wn,wp,w4];rw[zm (by omega),Ap,g3,zj,zm (by omega),Ap,g1,zj,k1,zj];have q:=(k2.trans (zdS (hle _ g2 _ g4)));by_cases hq:ahead key (L.getD (mid+m-1-h) 0) (L.getD (h) 0)
   ·rw[if_neg (fun h=>h hq),show decide (k<0)=true from decide_eq_true (q.2 hq),AW,za,zx,zY];rfl
   ·rw[if_pos hq,show decide (k<0)=false from decide_eq_false (fun h=>hq (q.1 h)),BN,ze,zx,zY,zR (by omega) (by omega)];rfl
  obtain⟨k,k1,k2,k3,k4,k5⟩:=zhu (B:=yK zck L a m b c) (fun h=>¬ahead key (L.getD (mid+m-1-h) 0) (L.getD h 0)) s r (fun i=>by simp only[yK,show ¬((i:Int)<(i:Int)) by omega,decide_false,za,zdv])
   (fun i j h1 h2 h3 h4=>by rw[step i j h1 h2 h3,if_pos h4]) (fun i j h1 h2 h3 h4=>by rw[step i j h1 h2 h3,if_neg h4])
   (fun i j h1 h2 h3 h4 h5=>by
    rcases B8 h2 with h|h
    ·exact h4 (qu (oy (mid+m-1-j) (mid+m-1-i) (by omega) (by omega) (by omega)) (qu h5 (ox i j (by omega) h (by omega))))
    ·rw[h] at h5;exact h4 h5) (r-s) s r rfl (Az _) hsr (Az _) (fun h _ _=>by omega) (fun h _ _=>by omega)
  obtain⟨e,he⟩:∃e,e=mid+m-k:=⟨_,rfl⟩;have tH:m<=e:=by omega
  have heb:e<=b:=by omega
  have hak:a<=k:=by omega
  have kZ:k<=m:=by omega
  have we:wi (((mid+m:Nat):Int)-(k:Int))=(e:Int):=by rw[zR (by omega) (by omega)];omega
  -- those in front of the cut are ahead of those behind it
  have fj:∀i j,a<=i->i<k->e<=j->j<b->ahead key (L.getD i 0) (L.getD j 0):=by
   intro i j h1 h2 h3 h4;have hk:s<=k-1:=by omega
   have q:=k4 (k-1) hk (by omega);rw[show mid+m-1-(k-1)=e by omega] at q;obtain⟨_,m1⟩:=gx (k-1) (by omega) (by omega);obtain⟨_,m2⟩:=gy e tH (by omega);have q2:=zbS (by have:=hle _ m1 _ m2;omega) q;have q3:ahead key (L.getD i 0) (L.getD e 0):=by
    rcases B8 (show i<=k-1 by omega) with h|h
    ·exact qu (ox i (k-1) h1 h (by omega)) q2
    ·rw[h];exact q2
   rcases B8 h3 with h|h
   ·exact qu q3 (oy e j tH h h4)
   ·rw[←h];exact q3
  have hYX:∀j i,m<=j->j<e->k<=i->i<m->ahead key (L.getD j 0) (L.getD i 0):=by
   intro j i h1 h2 h3 h4;have q:=Decidable.not_not.1 (k5 k (Az _) (by omega));rw[show mid+m-1-k=e-1 by omega] at q;have q3:ahead key (L.getD j 0) (L.getD k 0):=by
    rcases B8 (show j<=e-1 by omega) with h|h
    ·exact qu (oy j (e-1) h1 h (by omega)) q
    ·rw[h];exact q
   rcases B8 h3 with h|h
   ·exact qu q3 (ox k i hak h h4)
   ·rw[←h];exact q3
  -- the four parts
  obtain⟨X1,X2,rfl,x1⟩:=zgd X (k-a) (by omega);obtain⟨Y1,Y2,rfl,y1⟩:=zgd Y (e-m) (by omega);simp only[AB] at hm hb hx hy hf c1 c2 hlen tL;have memX1:∀z∈X1,∃i,a<=i∧i<k∧L.getD i 0=z:=fun z hz=>(by obtain⟨i,i1,i2,_,i3⟩:=zaM (A:=A) (B:=X2++Y1++Y2++B) 0 X1.length (x:=z) (X:=X1) (by simpa using hz);rw[show A++X1++(X2++Y1++Y2++B)=L by rw[←hL];simp] at i3;exact⟨i,by omega,by omega,i3⟩);have memX2:∀z∈X2,∃i,k<=i∧i<m∧L.getD i 0=z:=fun z hz=>(by obtain⟨i,i1,i2,_,i3⟩:=zaM (A:=A++X1) (B:=Y1++Y2++B) 0 X2.length (x:=z) (X:=X2) (by simpa using hz);rw[show A++X1++X2++(Y1++Y2++B)=L by rw[←hL];simp] at i3;simp only[AB] at i1 i2;exact⟨i,by omega,by omega,i3⟩);have memY1:∀z∈Y1,∃i,m<=i∧i<e∧L.getD i 0=z:=fun z hz=>(by obtain⟨i,i1,i2,_,i3⟩:=zaM (A:=A++X1++X2) (B:=Y2++B) 0 Y1.length (x:=z) (X:=Y1) (by simpa using hz);rw[show A++X1++X2++Y1++(Y2++B)=L by rw[←hL];simp] at i3;simp only[AB] at i1 i2;exact⟨i,by omega,by omega,i3⟩);have memY2:∀z∈Y2,∃i,e<=i∧i<b∧L.getD i 0=z:=fun z hz=>(by obtain⟨i,i1,i2,_,i3⟩:=zaM (A:=A++X1++X2++Y1) (B:=B) 0 Y2.length (x:=z) (X:=Y2) (by simpa using hz);rw[show A++X1++X2++Y1++Y2++B=L by rw[←hL];simp] at i3;simp only[AB] at i1 i2;exact⟨i,by omega,by omega,i3⟩);obtain⟨tk,tj,oR⟩:=zcu.1 iP;obtain⟨ti,th,oQ⟩:=zcu.1 iO
  -- the turn of the two blocks in the middle
  have ph:∀ {α:Type} (K:List Int->Option α),
   (jn (σ:=Bool) (α:=α) (br (decide ((k:Int)<(m:Int))) (zt (some (decide ((m:Int)<(e:Int))))) (zt (some false))) fun oG =>
    jn (σ:=List Int) (α:=α) (br oG
     (bno (yl L k m e (c.1,c.2.1,c.2.2)) fun lG=>ck (decide (List.length lG=List.length L)) <| zt (some lG))
     (zt (some L))) K)=K (A++X1++Y1++(X2++Y2++B)):=by
   intro α K;by_cases g1:k<m
   ·rw[show decide ((k:Int)<(m:Int))=true from decide_eq_true (by omega),ze,zx,zY];by_cases g2:m<e
    ·have hp:=P399_eq (c.1,c.2.1,c.2.2) (A++X1) X2 Y1 (Y2++B) k m e (by simp;omega) (by simp;omega) (by simp;omega) (by omega) (by omega) (by simp;omega);rw[show A++X1++X2++Y1++(Y2++B)=L by rw[←hL];simp] at hp;rw[show decide ((m:Int)<(e:Int))=true from decide_eq_true (by omega),ze,hp,zj,zm (by rw[tL];simp;omega),zx,zY];simp
    ·obtain rfl:=AN.1 (show Y1.length=0 by omega);rw[show decide ((m:Int)<(e:Int))=false from decide_eq_false (by omega),za,zx,zY,←hL];simp
   ·obtain rfl:=AN.1 (show X2.length=0 by omega);rw[show decide ((k:Int)<(m:Int))=false from decide_eq_false (by omega),za,zx,zY,za,zx,zY,←hL];simp
  -- the two rG
  obtain⟨Z1,p1,p2,p3,p4⟩:=zkR (key:=key) (c:=c) (F:=qW f) A X1 Y1 (X2++Y2++B) a k mid ha (by omega) (by omega) tk ti
   (fun h1 h2=>ih A X1 Y1 (X2++Y2++B) a k mid ha (by omega) (by omega) h1 h2 (by omega) (by simp;omega) (fun x h=>iZ x (by simp[h])) (fun y h=>iY y (by simp[h])) (fun x h y g=>hle x (by simp[h]) y (by simp[g])) tk ti)
  obtain⟨Z2,r1,r2,r3,r4⟩:=zkR (key:=key) (c:=c) (F:=qW f) (A++Z1) X2 Y2 B mid e b (by simp;omega) (by simp;omega) (by simp;omega) tj th
   (fun h1 h2=>ih (A++Z1) X2 Y2 B mid e b (by simp;omega) (by simp;omega) (by simp;omega) h1 h2 (by omega) (by simp;omega) (fun x h=>iZ x (by simp[h])) (fun y h=>iY y (by simp[h])) (fun x h y g=>hle x (by simp[h]) y (by simp[g])) tj th)
  refine⟨Z1++Z2, ?_, ?_,by simp;omega,fun z => ?_⟩
  ·rw[hL];unfold wu;rw[show wi ((m:Int)-(a:Int))=((X1.length+X2.length:Nat):Int) by rw[zR (by omega) (by omega)];omega,show wi ((b:Int)-(m:Int))=((Y1.length+Y2.length:Nat):Int) by rw[zR (by omega) (by omega)];omega];rw[show decide (((X1.length+X2.length:Nat):Int)=1)=false from decide_eq_false (by omega),za,show decide (((Y1.length+Y2.length:Nat):Int)=1)=false from decide_eq_false (by omega),za];simp only[wmid,wn];rw[hjn,zW,k1,zY];simp only[we];rw[ph,p4,show A++Z1++(X2++Y2++B)=A++Z1++X2++Y2++B by simp,r4];simp
  ·refine zcu.2 ⟨p1,r1,fun x hx y hy => ?_⟩;rcases (p3 x).1 hx with h|h<;>rcases (r3 y).1 hy with g|g
   ·exact oR x h y g
   ·obtain⟨i,i1,i2,rfl⟩:=memX1 x h;obtain⟨j,j1,j2,rfl⟩:=memY2 y g;exact fj i j i1 i2 j1 j2
   ·obtain⟨j,j1,j2,rfl⟩:=memY1 x h;obtain⟨i,i1,i2,rfl⟩:=memX2 y g;exact hYX j i j1 j2 i1 i2
   ·exact oQ x h y g
  ·simp only[Aj,p3,r3]
   constructor<;>(intro h;rcases h with (h|h)|(h|h)<;>simp[h])
end
end
section
section
variable {key:Int->Int} {c:Cap} {D:Int->Prop}
def Srt (key:Int->Int) (Z X:List Int):Prop:=Ord key Z∧Z.length=X.length∧∀z,z∈Z↔z∈X
def ins_one (hc:zhX zck c key D) (A:List Int) (y:Int):∀(n:Nat) (X R:List Int) (j:Nat),X.length=n->j=A.length+n->(A++X++y::R).length<4611686018427387904->D y->(∀x∈X,D x∧x<y)->Ord key X ->
  ∃X1 X2,X=X1++X2∧(∃j':Int,lpO (yP zck (A.length:Int) c) ((j:Int),A++X++y::R)=some (.inl (j',A++X1++y::(X2++R))))∧(∀x∈X1,ahead key x y)∧∀x∈X2,ahead key y x:=by
 intro n
 induction n with
 | zero =>intro X R j hn hj hl hd hx ho;obtain rfl:=AN.1 hn;refine⟨[],[],rfl,⟨(j:Int),zF ?_⟩,by simp,by simp⟩;simp only[yP,show ¬((A.length:Int)<(j:Int)) by omega,decide_false,za,zx,zY,zdv];simp
 | succ n ih =>
  intro X R j hn hj hl hd hx ho;obtain⟨X',z,rfl⟩:∃X' z,X=X'++[z]:=⟨X.dropLast,X.getLast (by intro e;simp[e] at hn),(List.dropLast_concat_getLast _).symm⟩;simp only[AB,Ax,BI] at hn;have tI:(A++(X'++[z])++y::R).length=A.length+n+1+1+R.length:=by simp;omega
  obtain⟨ox,_,oz⟩:=zcu.1 ho;have g1:(A++(X'++[z])++y::R)[j]? = some y:=(by rw[AM (by simp;omega),show j-(A++(X'++[z])).length=0 by simp;omega];rfl);have g2:(A++(X'++[z])++y::R)[j-1]? = some z:=(by rw[show A++(X'++[z])++y::R=(A++X')++z::(y::R) by simp,AM (by simp;omega),show j-1-(A++X').length=0 by simp;omega];rfl);obtain⟨ll,hzy⟩:=hx z (by simp);obtain⟨k,k1,k2⟩:=hc y z hd ll;have q:=k2.trans (zdS hzy);have w:wi ((j:Int)-1)=((j-1:Nat):Int):=by rw[zR (by omega) (by omega)];omega
  have body:yP zck (A.length:Int) c ((j:Int),A++(X'++[z])++y::R)=br (decide (k<0)) (some (.nx (((j-1:Nat):Int),A++X'++y::(z::R)))) (some (.dn ((j:Int),A++(X'++[z])++y::R))):=(by simp only[yP,show (A.length:Int)<(j:Int) by omega,decide_true,ze,w];rw[zm (by omega),Ap,g1,zj,zm (by omega),Ap,g2,zj,k1,zj,zx,zY];congr 1;have:=zdB (α:=LR (Int×(List Int)) (LR (Int×(List Int)) (List Int))) (A++(X'++[z])++y::R) j (j-1) (j:Int) ((j-1:Nat):Int) rfl rfl (by omega) (by omega) (fun m=>nxO (some (((j-1:Nat):Int),m)));simp only[Ap] at this;rw[g1,g2] at this;simp only[zj] at this ⊢;refine this.trans ?_;rw[show A++(X'++[z])++y::R=(A++X')++z::y::R by simp,swp_left (A++X') R z y j (by simp;omega)];rfl);by_cases hq:ahead key y z
  ·rw[show decide (k<0)=true from decide_eq_true (q.2 hq),ze] at body;obtain⟨X1,X2,e,⟨j',e2⟩,h1,h2⟩:=ih X' (z::R) (j-1) (by omega) (by omega) (by simp at hl ⊢;omega) hd (fun x h=>hx x (by simp[h])) ox;refine⟨X1,X2++[z],by rw[e];simp,⟨j',by rw[qh body,e2];simp⟩,h1,fun x h => ?_⟩;rcases Aj.1 h with h|h
   ·exact h2 x h
   ·obtain rfl:=Ah.1 h;exact hq
  ·rw[show decide (k<0)=false from decide_eq_false (fun h=>hq (q.1 h)),za] at body;have hz:ahead key z y:=zbS (by omega) hq;refine⟨X'++[z],[],by simp,⟨(j:Int),by rw[zF body];simp⟩,fun x h => ?_,by simp⟩;rcases Aj.1 h with h|h
   ·exact qu (oz x h z (by simp)) hz
   ·obtain rfl:=Ah.1 h;exact hz
def ins_loop (hc:zhX zck c key D) (A B:List Int) (b:Nat):∀(R Z:List Int) (i:Nat),i=A.length+Z.length->b=i+R.length->0<Z.length->(A++Z++R++B).length<4611686018427387904->(∀x∈Z,D x)->(∀x∈R,D x)->(∀x∈Z,∀y∈R,x<y)->R.Pairwise (· < ·)->Ord key Z ->
  ∃Z',lpO (jG zck (A.length:Int) (b:Int) c) ((i:Int),A++Z++R++B)=some (.inl ((b:Int),A++Z'++B))∧Srt key Z' (Z++R):=by
 intro R
 induction R with
 | nil =>intro Z i hi hb hz hl ll hdr hle hr ho;simp at hb;subst hb;refine⟨Z,zF ?_,ho,by simp,fun z=>by simp⟩;simp only[jG,show ¬((b:Int)<(b:Int)) by omega,decide_false,za,zdv];simp
 | cons y R ih =>
  intro Z i hi hb hz hl ll hdr hle hr ho;simp only[Ax] at hb;obtain⟨eN,ga⟩:=Br.1 hr;obtain⟨X1,X2,rfl,⟨j',e⟩,h1,h2⟩:=ins_one hc A y Z.length Z (R++B) i rfl hi (by simpa using hl) (hdr y (by simp)) (fun x h=>⟨ll x h,hle x h y (by simp)⟩) ho;have o2:Ord key (X1++y::X2):=zjY ho h1 h2;have dD:(A++(X1++y::X2)++R++B).length<4611686018427387904:=by simp at hl ⊢;omega
  have body:jG zck (A.length:Int) (b:Int) c ((i:Int),A++(X1++X2)++(y::R)++B)=some (.nx (((i+1:Nat):Int),A++(X1++y::X2)++R++B)):=(by simp only[jG,show (i:Int)<(b:Int) by omega,decide_true,ze];rw[zW,show A++(X1++X2)++(y::R)++B=A++(X1++X2)++y::(R++B) by simp,e,zY,zR (by simp at hl hi;omega) (by simp at hl hi;omega),ji];simp)
  obtain⟨Z',z1,z2,z3,z4⟩:=ih (X1++y::X2) (i+1) (by simp at hi ⊢;omega) (by omega) (by simp;omega) dD
   (fun x h=>by
    rcases Aj.1 h with h|h
    ·exact ll x (by simp[h])
    ·rcases Ar.1 h with rfl|h
     ·exact hdr _ (by simp)
     ·exact ll x (by simp[h]))
   (fun x h=>hdr x (by simp[h]))
   (fun x h w g=>by
    rcases Aj.1 h with h|h
    ·exact hle x (by simp[h]) w (by simp[g])
    ·rcases Ar.1 h with rfl|h
     ·exact eN w g
     ·exact hle x (by simp[h]) w (by simp[g])) ga o2
  refine⟨Z',by rw[qh body,z1],z2,by rw[z3];simp;omega,fun z => ?_⟩;rw[z4];simp[or_assoc,or_comm,or_left_comm]
def zcW (hc:zhX zck c key D) (A X B:List Int) (a b:Nat) (ha:a=A.length) (hb:b=A.length+X.length) (hl:(A++X++B).length<4611686018427387904) (hd:∀x∈X,D x) (hr:X.Pairwise (· < ·)) :
  ∃Z,ju (A++X++B) a b c=some (A++Z++B)∧Srt key Z X:=by
 have w:wi ((a:Int)+1)=((a+1:Nat):Int):=by rw[zR (by simp at hl;omega) (by simp at hl;omega)];omega
 cases X with
 | nil =>refine⟨[], ?_,by simp[Ord],rfl,fun z=>Iff.rfl⟩;unfold ju zdU;rw[w,zW,zF (y:=(((a+1:Nat):Int),A++[]++B)) (by simp only[jG,show ¬(((a+1:Nat):Int)<(b:Int)) by simp at hb;omega,decide_false,za,zdv]),zY]
 | cons x R =>obtain⟨eN,ga⟩:=Br.1 hr;obtain⟨Z,z1,z2⟩:=ins_loop hc A B b R [x] (a+1) (by simp[ha]) (by simp at hb;omega) (by simp) (by simpa using hl) (by simpa using hd x (by simp)) (fun y h=>hd y (by simp[h])) (fun z h y g=>by obtain rfl:=Ah.1 h;exact eN y g) ga (by simp[Ord]);refine⟨Z, ?_,by simpa using z2⟩;unfold ju zdU;rw[w,zW,show A++x::R++B=A++[x]++R++B by simp,show ((a:Nat):Int)=(A.length:Int) by rw[ha],z1,zY]
def zkE (hc:zhX zck c key D) (A X Y B:List Int) (a m b:Nat) (ha:a=A.length) (hm:m=A.length+X.length) (hb:b=A.length+X.length+Y.length) (hx:0<X.length) (hy:0<Y.length) (hl:(A++X++Y++B).length<4611686018427387904)
  (iZ:∀x∈X,D x) (iY:∀y∈Y,D y) (hle:Less X Y) (iP:Ord key X) (iO:Ord key Y) :
  ∃Z,qZ (A++X++Y++B) a m b c=some (A++Z++B)∧Srt key Z (X++Y):=by
 obtain⟨Z,z1,z2,z3,z4⟩:=sym_all hc (Int.toNat ((b:Int)-(a:Int))+1) A X Y B a m b ha hm hb hx hy (by omega) hl iZ iY hle iP iO;exact⟨Z,z1,z2,by simpa using z3,fun z=>by simpa using z4 z⟩
def zjD {n a b:Nat} {l l':List Int} (h:b<=n) (hp:ju l a b (c.1,c.2.1,c.2.2)=some l') (hl:l'.length=l.length) (hb:b<4611686018427387904):jH ju (n:Int) c ((a:Int),(b:Int),l)=some (.nx ((b:Int),((b+20:Nat):Int),l')):=by simp only[jH,show (b:Int)<=(n:Int) by omega,decide_true,ze,hp,zj,hl,jZ,ji];rw[zR (by omega) (by omega)];rfl
def zdD {n a b:Nat} {l:List Int} (h:n<b):jH ju (n:Int) c ((a:Int),(b:Int),l)=some (.dn ((a:Int),(b:Int),l)):=by simp only[jH,show ¬(b:Int)<=(n:Int) by omega,decide_false,za,zdv]
def stab_L2 {n a b s:Nat} {l0 l l':List Int} (h:b<=n) (hp:qZ l a (a+s:Nat) b (c.1,c.2.1,c.2.2)=some l') (hl:l'.length=l.length) (hb:a+b+s<1000000000):yQ qZ (n:Int) c ((s:Int),l0) ((a:Int),(b:Int),l)=some (.nx ((b:Int),((b+2*s:Nat):Int),l')):=by
 have w1:wi ((a:Int)+(s:Int))=((a+s:Nat):Int):=by rw[zR (by omega) (by omega)];omega
 have w2:wi ((2:Int)*(s:Int))=((2*s:Nat):Int):=by rw[zR (by omega) (by omega)];omega
 have w3:wi ((b:Int)+((2*s:Nat):Int))=((b+2*s:Nat):Int):=by rw[zR (by omega) (by omega)];omega
 simp only[yQ,show (b:Int)<=(n:Int) by omega,decide_true,ze,w1,hp,zj,hl,jZ,ji,w2,w3]
def zkX {n a b s:Nat} {l0 l:List Int} (h:n<b):yQ qZ (n:Int) c ((s:Int),l0) ((a:Int),(b:Int),l)=some (.dn ((a:Int),(b:Int),l)):=by simp only[yQ,show ¬(b:Int)<=(n:Int) by omega,decide_false,za,zdv]
def zbL {n s:Nat} {l:List Int} (h:n<=s):jd qZ (n:Int) c ((s:Int),l)=some (.dn ((s:Int),l)):=by simp only[jd,show ¬(s:Int)<(n:Int) by omega,decide_false,za,zdv]
def zkW {n s:Nat} {l l':List Int} (h:s<n) (h2:n<2*s) (hp:qZ l (0:Nat) (s:Nat) n (c.1,c.2.1,c.2.2)=some l') (hl:l'.length=l.length) (hb:s<1000000000):jd qZ (n:Int) c ((s:Int),l)=some (.nx (((s*2:Nat):Int),l')):=by
 have w2:wi ((2:Int)*(s:Int))=((2*s:Nat):Int):=by rw[zR (by omega) (by omega)];omega
 have w3:wi ((s:Int)*2)=((s*2:Nat):Int):=by rw[zR (by omega) (by omega)];omega
 have w1:wi (((0:Nat):Int)+(s:Int))=(s:Int):=by rw[zR (by omega) (by omega)];omega
 simp only[jd,show (s:Int)<(n:Int) by omega,decide_true,ze,w2,w3,zW];rw[show (0:Int)=((0:Nat):Int) from rfl,zF (zkX (by omega)),zY];simp only[w1,show (s:Int)<(n:Int) by omega,decide_true,ze,hp,zj,hl,jZ,zx,zY,ji]
def stab_L3b {n s:Nat} {l l':List Int} (h:2*s<=n) (h2:n<=3*s) (h0:0<s) (hp:qZ l (0:Nat) (s:Nat) (2*s:Nat) (c.1,c.2.1,c.2.2)=some l') (hl:l'.length=l.length) (hb:s<1000000):jd qZ (n:Int) c ((s:Int),l)=some (.nx (((s*2:Nat):Int),l')):=by
 have w2:wi ((2:Int)*(s:Int))=((2*s:Nat):Int):=by rw[zR (by omega) (by omega)];omega
 have w3:wi ((s:Int)*2)=((s*2:Nat):Int):=by rw[zR (by omega) (by omega)];omega
 have w1:wi (((2*s:Nat):Int)+(s:Int))=((3*s:Nat):Int):=by rw[zR (by omega) (by omega)];omega
 simp only[jd,show (s:Int)<(n:Int) by omega,decide_true,ze,w2,w3,zW];have e:=stab_L2 (c:=c) (n:=n) (a:=0) (b:=2*s) (s:=s) (l0:=l) (l:=l) (l':=l') h (by rw[AY];exact hp) hl (by omega);rw[show (0:Int)=((0:Nat):Int) from rfl,qh e,zF (zkX (by omega)),zY];simp only[w1,show ¬((3*s:Nat):Int)<(n:Int) by omega,decide_false,za,zx,zY,ji]
def P393_eq (hc:zhX zck c key D) (l:List Int) (hn:l.length<=60) (hd:∀x∈l,D x) (hr:l.Pairwise (· < ·)):∃Z,zdZ l c=some Z∧Srt key Z l:=by
 suffices h:∃Z,zcg l (l.length:Int) (c.1,c.2.1,c.2.2)=some Z∧Srt key Z l by
  obtain⟨Z,z1,z2⟩:=h;refine⟨Z, ?_,z2⟩;unfold zdZ zhG;rw[z1,zj,zm z2.2.1]
 obtain⟨n,gW⟩:∃n,n=l.length:=⟨_,rfl⟩;rw[←gW];unfold zcg zhF;have sub:∀ {A X B:List Int},l=A++X++B->(∀x∈X,D x)∧X.Pairwise (· < ·):=fun {A X B} e=>(by subst e;exact⟨fun x h=>hd x (by simp[h]),(BD.1 (BD.1 hr).1).2.1⟩);have c0:((20:Nat):Int)=20:=rfl;rw[show ((0:Int))=((0:Nat):Int) from rfl,←c0];by_cases h20:n<20
 ·obtain⟨Z,z1,z2⟩:=zcW (c:=(c.1,c.2.1,c.2.2)) hc [] l [] 0 n rfl (by simp[gW]) (by simp;omega) hd hr;simp only[AJ,Bl] at z1;refine⟨Z, ?_,z2⟩;rw[zW,zF (zdD h20),zY];simp only[z1,zj,z2.2.1,decide_true,jZ,zW];rw[zF (zbL (by omega)),zY]
 ·obtain⟨X,R,rfl,hX⟩:=zgd l 20 (by omega);simp only[AB] at gW hn;obtain⟨dX,rX⟩:=sub (A:=[]) (X:=X) (B:=R) (by simp);have aj:∀x∈X,∀y∈R,x<y:=(BD.1 hr).2.2;obtain⟨Z1,z1,z2⟩:=zcW (c:=(c.1,c.2.1,c.2.2)) hc [] X R 0 20 rfl (by simp[hX]) (by simp;omega) dX rX;simp only[AJ] at z1;rw[zW,qh (zjD (b:=20) (by omega) z1 (by simp[z2.2.1]) (by omega))];by_cases dQ:n<40
  ·obtain⟨dR,rR⟩:=sub (A:=X) (X:=R) (B:=[]) (by simp);obtain⟨Z2,y1,y2⟩:=zcW (c:=(c.1,c.2.1,c.2.2)) hc Z1 R [] 20 n (by rw[z2.2.1,hX]) (by rw[z2.2.1];omega) (by simp[z2.2.1];omega) dR rR;simp only[Bl] at y1;rw[zF (zdD (by omega)),zY];simp only[y1,zj,zW];rw[zm (by simp[y2.2.1])];by_cases hR:n=20
   ·obtain rfl:=AN.1 (show R.length=0 by omega);obtain rfl:=AN.1 (show Z2.length=0 by rw[y2.2.1];rfl);refine⟨Z1++[], ?_,by simpa using z2⟩;rw[zF (zbL (by omega)),zY]
   ·obtain⟨Z,w1,w2⟩:=zkE (c:=(c.1,c.2.1,c.2.2)) hc [] Z1 Z2 [] 0 20 n rfl (by simp[z2.2.1,hX]) (by simp[z2.2.1,y2.2.1];omega) (by rw[z2.2.1];omega) (by rw[y2.2.1];omega) (by simp[z2.2.1,y2.2.1];omega)
     (fun x h=>dX x ((z2.2.2 x).1 h)) (fun x h=>dR x ((y2.2.2 x).1 h)) (fun x h y g=>aj x ((z2.2.2 x).1 h) y ((y2.2.2 y).1 g)) z2.1 y2.1
    simp only[AJ,Bl] at w1;have mJ:Z.length=X.length+R.length:=by rw[w2.2.1];simp[z2.2.1,y2.2.1]
    refine⟨Z, ?_,w2.1,by simpa using mJ,fun z=>by rw[w2.2.2];simp[z2.2.2,y2.2.2]⟩;rw[qh (zkW (by omega) (by omega) w1 (by simp[mJ,z2.2.1,y2.2.1]) (by omega)),zF (zbL (by omega)),zY]
  ·obtain⟨Y,R,rfl,hY⟩:=zgd R 20 (by omega);simp only[AB] at gW hn;obtain⟨dY,rY⟩:=sub (A:=X) (X:=Y) (B:=R) (by simp);obtain⟨dR,rR⟩:=sub (A:=X++Y) (X:=R) (B:=[]) (by simp);have dA:∀x∈Y,∀y∈R,x<y:=(BD.1 (BD.1 hr).2.1).2.2;obtain⟨Z2,y1,y2⟩:=zcW (c:=(c.1,c.2.1,c.2.2)) hc Z1 Y R 20 40 (by rw[z2.2.1,hX]) (by rw[z2.2.1,hX,hY]) (by simp[z2.2.1];omega) dY rY;rw[show Z1++Y++R=Z1++(Y++R) by simp] at y1;rw[qh (zjD (a:=20) (b:=40) (by omega) y1 (by simp[y2.2.1]) (by omega))];have lQ:(Z1++Z2).length=40:=by simp[z2.2.1,y2.2.1,hX,hY]
   -- what is behind the two blocks is put in order
   obtain⟨Z3,x1,x2⟩:∃Z3,(∀(K:List Int->Option (List Int)),(jn (lpO (jH ju (n:Int) (c.1,c.2.1,c.2.2)) (((40:Nat):Int),((40+20:Nat):Int),Z1++Z2++R)) fun x3 =>
     bno (ju x3.2.2 x3.1 (n:Int) (c.1,c.2.1,c.2.2)) fun y4=>ck (decide (List.length y4=List.length x3.2.2)) (K y4))=K (Z1++Z2++Z3))∧Srt key Z3 R:=by
    obtain⟨Z3,x1,x2⟩:=zcW (c:=(c.1,c.2.1,c.2.2)) hc (Z1++Z2) R [] 40 n (by rw[lQ]) (by rw[lQ];omega) (by simp[z2.2.1,y2.2.1];omega) dR rR;simp only[Bl] at x1;refine⟨Z3,fun K => ?_,x2⟩;by_cases iv:n<60
    ·rw[zF (zdD (by omega)),zY];simp only[x1,zj];rw[zm (by simp[x2.2.1])]
    ·obtain rfl:n=60:=by omega
     obtain⟨E,e1,e2⟩:=zcW (c:=(c.1,c.2.1,c.2.2)) hc (Z1++Z2++Z3) [] [] 60 60 (by simp at lQ;simp[x2.2.1];omega) (by simp at lQ;simp[x2.2.1];omega) (by simp[z2.2.1,y2.2.1,x2.2.1];omega) (by simp) List.Pairwise.nil;obtain rfl:=AN.1 (show E.length=0 by rw[e2.2.1];rfl);simp only[Bl] at e1;rw[qh (zjD (by omega) x1 (by simp[x2.2.1]) (by omega)),zF (zdD (by omega)),zY];simp only[e1,zj,decide_true,jZ]
   rw[x1]
   obtain⟨M,m1,m2⟩:=zkE (c:=(c.1,c.2.1,c.2.2)) hc [] Z1 Z2 Z3 0 20 40 rfl (by simp[z2.2.1,hX]) (by simp[z2.2.1,y2.2.1];omega) (by rw[z2.2.1];omega) (by rw[y2.2.1];omega) (by simp[z2.2.1,y2.2.1,x2.2.1];omega)
     (fun x h=>dX x ((z2.2.2 x).1 h)) (fun x h=>dY x ((y2.2.2 x).1 h)) (fun x h y g=>aj x ((z2.2.2 x).1 h) y (by simp[(y2.2.2 y).1 g])) z2.1 y2.1
   simp only[AJ] at m1;have kr:M.length=40:=by rw[m2.2.1];exact lQ
   rw[zW,qh (stab_L3b (s:=20) (by omega) (by omega) (by omega) m1 (by simp[kr,z2.2.1,y2.2.1];omega) (by omega))];by_cases hR:n=40
   ·obtain rfl:=AN.1 (show R.length=0 by omega);obtain rfl:=AN.1 (show Z3.length=0 by rw[x2.2.1];rfl);refine⟨M++[],by rw[zF (zbL (by omega)),zY],by simpa using m2.1,by simp[kr];omega,fun z=>by simp[m2.2.2,z2.2.2,y2.2.2]⟩
   ·obtain⟨Z,w1,w2⟩:=zkE (c:=(c.1,c.2.1,c.2.2)) hc [] M Z3 [] 0 40 n rfl (by simp[kr]) (by simp[kr,x2.2.1];omega) (by omega) (by rw[x2.2.1];omega) (by simp[kr,x2.2.1];omega)
     (fun x h=>by
      rcases Aj.1 ((m2.2.2 x).1 h) with g|g
      ·exact dX x ((z2.2.2 x).1 g)
      ·exact dY x ((y2.2.2 x).1 g)) (fun x h=>dR x ((x2.2.2 x).1 h))
     (fun x h y g=>by
      rcases Aj.1 ((m2.2.2 x).1 h) with q|q
      ·exact aj x ((z2.2.2 x).1 q) y (by simp[(x2.2.2 y).1 g])
      ·exact dA x ((y2.2.2 x).1 q) y ((x2.2.2 y).1 g)) m2.1 x2.1
    simp only[AJ,Bl] at w1;have mJ:Z.length=40+R.length:=by rw[w2.2.1];simp[kr,x2.2.1]
    refine⟨Z, ?_,w2.1,by simp[mJ];omega,fun z=>by rw[w2.2.2];simp[m2.2.2,z2.2.2,y2.2.2,x2.2.2,or_assoc]⟩;rw[qh (zkW (by omega) (by omega) w1 (by simp[mJ,kr,x2.2.1]) (by omega)),zF (zbL (by omega)),zY]
end
end
end Ab
