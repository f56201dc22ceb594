import Derived.Test.YtkaifdgeigdbhaaGreatDoorS1
import Derived.Test.YtkaifdgeigdbhaaGreatDoorMSe
import Derived.Test.YtkaifdgeigdbhaaGreatDoorQCb
import Derived.Test.YtkaifdgeigdbhaaGreatDoorHK
set_option linter.all false
noncomputable section
namespace Ab
open Go
section
def zdF (n:Int):Bool:=decide (0<=n∧n<=1000000)
def qW {n:Int}:zdF n=true↔0<=n∧n<=1000000:=by simp[zdF]
def zeX (n:Int):P392 n=some (zdF n):=by
 unfold P392 S392 zdF;by_cases h:0<=n
 ·simp[h]
 ·simp[h]
def eV (n:Int) (w:List Int):Int:=if zdF n=true then (if w.length=0∨60 < w.length then 4 else if w.all zdF=true then (if w.sum=0 then 3 else 0) else 1) else 1
structure LikeOk (n:Int) (w:List Int):Prop where
 n0:0<=n∧n<=1000000
 l0:0 < w.length
 l1:w.length<=60
 wv:∀ x∈w,0<=x∧x<=1000000
 s0:w.sum≠0
def kx {n:Int} {w:List Int}:eV n w=0↔LikeOk n w:=by
 unfold eV;constructor
 ·intro h;split at h
  ·rename_i h1;split at h
   ·cases h
   ·rename_i h2;split at h
    ·rename_i h3;split at h
     ·cases h
     ·rename_i h4;exact ⟨qW.1 h1,by omega,by omega,fun x hx=>qW.1 (Ae.1 h3 x hx),h4⟩
    ·cases h
  ·cases h
 ·intro h;have:=h.l0;have:=h.l1;rw[if_pos (qW.2 h.n0),if_neg (by omega),if_pos (Ae.2 fun x hx=>qW.2 (h.wv x hx)),if_neg h.s0]
def zjH {l:List Int} {M:Int} (h:∀ x∈l,0<=x∧x<=M):0<=l.sum∧l.sum<=l.length * M:=by
 induction l with
 | nil=>simp
 | cons a l ih =>obtain ⟨h1,h2⟩:=ih fun x hx=>h x (by simp[hx]);have:=h a (by simp);simp only[List.sum_cons,Ax,Cy,Int.add_mul,CS,Int.one_mul];omega
def sum_take (w:List Int) (i:Nat) (x:Int) (h:w[i]? = some x):(w.take (i+1)).sum=(w.take i).sum+x:=by rw[A6,h];simp
def zfL {α:Type} {B:Int×Int->Option (LR (Int×Int) α)} (w:List Int) (r:α) (hlen:w.length<=60)
  (step:∀ (i:Nat) (x s:Int),w[i]? = some x->B ((i:Int),s)=some (if zdF x=true then .nx (wi ((i:Int)+1),wi (s+x)) else .fin r))
  (hn:∀ s,B ((w.length:Int),s)=some (.dn ((w.length:Int),s))) :
  lpO B (0,0)=some (if w.all zdF=true then .inl ((w.length:Int),w.sum) else .inr r):=by
 have all:∀ (zs:List Int) (i:Nat),w.drop i=zs->i<=w.length->(∀ x∈w.take i,0<=x∧x<=1000000)->lpO B ((i:Int),(w.take i).sum)=some (if zs.all zdF=true then .inl ((w.length:Int),w.sum) else .inr r):=by
  intro zs
  induction zs with
  | nil =>
   intro i e hi _;have:i=w.length:=by have:=congrArg List.length e;simp at this;omega
   subst this;rw[zD (hn _)];simp
  | cons x zs ih =>
   intro i e hi hb;have hx:w[i]? = some x:=(by have:=congrArg (fun l=>l[0]?) e;simpa using this);have gO:i < w.length:=(Ac.1 hx).1;have hs:=step i x (w.take i).sum hx;by_cases hv:zdF x=true
   ·rw[if_pos hv] at hs;have ki:=qW.1 hv;obtain ⟨b1,b2⟩:=zjH hb
    have hl:((w.take i).length:Int)<=60:=by have:(w.take i).length<=w.length:=by simp;omega
                                            omega
    have hb3:(w.take i).sum<=60000000:=CR b2 (by omega);rw[z6 hs,zJ (n:=(i:Int)+1) (by omega) (by omega),zJ (by omega) (by omega),← sum_take w i x hx];have:=ih (i+1) (by rw[← List.drop_drop,e];simp) (by omega) (fun y hy=>by
     rw[A6,hx] at hy;rcases Ah.1 hy with hy | hy
     ·exact hb y hy
     ·simp at hy;subst hy;exact ki)
    rw[show ((i:Int)+1)=((i+1:Nat):Int) by omega,this];simp[A9,hv]
   ·rw[if_neg hv] at hs;rw[jc hs];simp[A9,hv]
 have:=all w 0 rfl (by omega) (by simp);simpa using this
def zhD (n:Int) (w:List Int) (i:Int):Int:=n * w.getD i.toNat 0 % w.sum
def flo (n:Int) (w:List Int):List Int:=w.map fun x=>n * x / w.sum
def idx (m:Nat):List Int:=(List.range m).map fun (i:Nat)=>(i:Int)
def idx_up (m:Nat):(idx m).Pairwise (· < ·):=by unfold idx;rw[List.pairwise_map];exact List.pairwise_lt_range.imp fun h=>by omega
def zea (m:Nat):(idx m).length=m:=by simp[idx]
def zgb {m:Nat} {x:Int}:x∈idx m↔0<=x∧x < m:=by
 unfold idx;simp only[Aj,Bj];constructor
 ·rintro ⟨i,h,rfl⟩;omega
 ·intro h;exact ⟨x.toNat,by omega,by omega⟩
def bump (out:List Int) (i:Int):List Int:=out.set i.toNat (out.getD i.toNat 0+1)
def jK (out is:List Int):List Int:=is.foldl bump out
def bump_len (out:List Int) (i:Int):(bump out i).length=out.length:=by simp[bump]
def zaB:∀ (is out:List Int),(jK out is).length=out.length
 | [],_=>rfl
 | i :: is,out=>by show (jK (bump out i) is).length=_;rw[zaB is,bump_len]
def zfD (out is:List Int) (i:Int):jK out (is++[i])=bump (jK out is) i:=by simp[jK]
def zbh (n:Int) (w:List Int):Int:=n - (flo n w).sum
def map_sum {n:Int} (f g:Int->Int) (c:Int):∀ l:List Int,(∀ x∈l,f x * c+g x=n * x)->(l.map f).sum * c+(l.map g).sum=n * l.sum
 | [],_=>by simp
 | a :: l,h=>by
  have h1:=h a (by simp);have h2:=map_sum f g c l fun x hx=>h x (by simp[hx]);simp only[Ar,List.sum_cons,Int.add_mul,Int.mul_add];omega
def left_eq (n:Int) (w:List Int):zbh n w * w.sum=(w.map fun x=>n * x % w.sum).sum:=by
 have h:=map_sum (n:=n) (fun x=>n * x / w.sum) (fun x=>n * x % w.sum) w.sum w (fun x _=>by
  have:=Int.mul_ediv_add_emod (n * x) w.sum;rw[Int.mul_comm];exact this)
 unfold zbh flo;rw[Int.sub_mul];omega
section
variable {n:Int} {w:List Int}
def LikeOk.spos (h:LikeOk n w):0 < w.sum∧w.sum<=60000000:=by have h1:=zjH h.wv;have:=h.s0;have:=h.l1;omega
def LikeOk.prod (h:LikeOk n w) {x:Int} (hx:x∈w):0<=n * x∧n * x<=1000000000000:=by obtain ⟨a,b⟩:=h.n0;obtain ⟨c,d⟩:=h.wv x hx;refine ⟨Int.mul_nonneg a c, ?_⟩;have:=Int.mul_le_mul b d c (by omega);simpa using this
def LikeOk.left (h:LikeOk n w):0<=zbh n w∧zbh n w<=w.length:=by obtain ⟨s1,s2⟩:=h.spos;have e:=left_eq n w;have hb:∀ x∈(w.map fun x=>n * x % w.sum),0<=x∧x<=w.sum:=fun y hy=>(by obtain ⟨x,hx,rfl⟩:=Aj.1 hy;exact ⟨Int.emod_nonneg _ (by omega),Int.le_of_lt (Int.emod_lt_of_pos _ s1)⟩);obtain ⟨b1,b2⟩:=zjH hb;rw[Ao] at b2;rw[← e] at b1 b2;exact ⟨Int.nonneg_of_mul_nonneg_left b1 s1,Int.le_of_mul_le_mul_right b2 s1⟩
def flo_get {i:Nat} {x:Int} (h:w[i]? = some x):(flo n w)[i]? = some (n * x / w.sum):=by simp[flo,h]
def LikeOk.flo_in (h:LikeOk n w):∀ y∈flo n w,0<=y∧y<=1000000000000:=fun y hy=>by
 obtain ⟨x,hx,rfl⟩:=Aj.1 hy;obtain ⟨p1,p2⟩:=h.prod hx;obtain ⟨s1,s2⟩:=h.spos;exact ⟨CT p1 (by omega),CR (CO _ p1) p2⟩
def LikeOk.cut (h:LikeOk n w) (i:Nat):0<=((flo n w).take i).sum∧((flo n w).take i).sum<=60000000000000:=by
 have:=zjH (l:=(flo n w).take i) (M:=1000000000000) fun y hy=>h.flo_in y (BJ hy)
 have h1:(((flo n w).take i).length:Int)<=60:=by have:=h.l1;have:((flo n w).take i).length<=60:=by simp[flo];omega
                                                 omega
 refine ⟨this.1,CR this.2 (by omega)⟩
def LikeOk.cmp (h:LikeOk n w):fZ bJ (n,w,w.sum) (zhD n w) (fun x=>0<=x∧x < w.length):=by
 rintro x y ⟨x0,x1⟩ ⟨y0,y1⟩;obtain ⟨s1,s2⟩:=h.spos;have gx:zo w x=some w[x.toNat]:=zbK x0 x1;have gy:zo w y=some w[y.toNat]:=zbK y0 y1;have px:=h.prod (Ay (l:=w) (n:=x.toNat) (by omega));have py:=h.prod (Ay (l:=w) (n:=y.toNat) (by omega));have dx:w.getD x.toNat 0=w[x.toNat]'(by omega):=by simp[List.getD,show x.toNat < w.length by omega]
 have dy:w.getD y.toNat 0=w[y.toNat]'(by omega):=by simp[List.getD,show y.toNat < w.length by omega]
 unfold bJ S394;simp only[gx,gy,zk,show ¬ w.sum=0 by omega,not_false_eq_true,decide_true,jf,P81_eq];rw[zJ (by omega) (by omega),zJ (by omega) (by omega),BW px.1,BW py.1];refine ⟨_,rfl, ?_⟩;unfold zhD;rw[dx,dy];split
 ·rename_i g;exact ⟨fun _=>g,fun _=>by omega⟩
 ·rename_i g;split
  ·exact ⟨fun q=>by omega,fun q=>absurd q g⟩
  ·exact ⟨fun q=>by omega,fun q=>absurd q g⟩
def P386_ok (h:LikeOk n w):∃ Z,Srt (zhD n w) Z (idx w.length)∧P386 n w=some (jK (flo n w) (Z.take (zbh n w).toNat),.nil):=by
 obtain ⟨s1,s2⟩:=h.spos;have l0:=h.l0;have l1:=h.l1;have n0:=h.n0;obtain ⟨Z,z1,z2⟩:=P393_eq h.cmp (idx w.length) (by rw[zea];exact l1) (fun x hx=>zgb.1 hx) (idx_up _);refine ⟨Z,z2, ?_⟩;have zl:Z.length=w.length:=by rw[z2.2.1,zea]
 unfold P386 S386;simp only[zeX,qW.2 n0,zk,A4,za,show ¬ ((w.length:Int)=0) by omega,decide_false,za,show ¬ ((60:Int) < (w.length:Int)) by omega,zt,zN,zO]
 have w1:=zfL (B:=zbr P392 w) w (([]:List Int),Err.no 1) l1 (fun i x s hx=>by
   have hi:(i:Int) < (w.length:Int):=by have:=(Ac.1 hx).1;omega
   simp only[zbr,hi,decide_true,zg,zb,hx,zk,zeX];cases zdF x<;>simp) (fun s=>by simp[zbr])
 rw[w1,if_pos (Ae.2 fun x hx=>qW.2 (h.wv x hx)),zN];simp only[show ¬ (w.sum=0) by omega,decide_false,za];have w2:=zU (B:=zcA n w ((w.length:Int),w.sum)) (fun i=>(((flo n w).take i),idx i,n - ((flo n w).take i).sum,(i:Int))) w.length (fun i hi=>by
  obtain ⟨x,hx⟩:∃ x,w[i]? = some x:=⟨_,Aa hi⟩;obtain ⟨p1,p2⟩:=h.prod (Ad hx);have q1:=CT p1 (show 0<=w.sum by omega);have q2:=CO w.sum p1;have fg:=flo_get (n:=n) hx;have ft:(flo n w).take (i+1)=(flo n w).take i++[n * x / w.sum]:=by rw[A6,fg];rfl
  have ftl:((flo n w).take i).length=i:=by simp[flo];omega
  have cut:=h.cut i;have oS:=h.cut (i+1);have st:((flo n w).take (i+1)).sum=((flo n w).take i).sum+n * x / w.sum:=by rw[ft];simp
  simp only[zcA,show (i:Int) < (w.length:Int) by omega,decide_true,zg,zb,hx,zk,show ¬ (w.sum=0) by omega,not_false_eq_true,jf];rw[zJ (n:=n * x) (by omega) (by omega),CG p1,zJ (n:=n * x / w.sum) (by omega) (by omega),← ft];rw[zw (by simp[ftl,zH];omega),zw (by simp[zea,zH];omega)];have fl2:((flo n w).take (i+1)).length=i+1:=by simp[flo];omega
  rw[zw (by rw[fl2];omega),Am,show ((flo n w).take (i+1))[i]? = some (n * x / w.sum) by rw[AZ (by omega),fg],zk,qR,zJ (by omega) (by omega),zJ (by omega) (by omega)];rw[st,show idx i++[(i:Int)]=idx (i+1) by simp[idx,BZ]];rw[show n - ((flo n w).take i).sum - n * x / w.sum=n - (((flo n w).take i).sum+n * x / w.sum) by omega]
  rfl)
 have w3:=zD (B:=zcA n w ((w.length:Int),w.sum)) (x:=(((flo n w).take w.length),idx w.length,n - ((flo n w).take w.length).sum,(w.length:Int))) (y:=(((flo n w).take w.length),idx w.length,n - ((flo n w).take w.length).sum,(w.length:Int))) (by simp[zcA]);have ff:(flo n w).take w.length=flo n w:=Bf (by simp[flo]);have w4:lpO (zcA n w ((w.length:Int),w.sum)) (([]:List Int),([]:List Int),n,(0:Int))=some (.inl (flo n w,idx w.length,zbh n w,(w.length:Int))):=(by have:=w2.trans w3;rw[ff] at this;simpa[idx,zbh] using this);rw[w4,zN];obtain ⟨t1,t2⟩:=h.left;obtain ⟨t,ht⟩:∃ t:Nat,zbh n w=t:=⟨(zbh n w).toNat,by omega⟩;simp only[z1,zk];rw[zw (by rw[zl,zea]),zw (by rw[zl];omega),ht];have w5:=zU (B:=zgJ (flo n w,idx w.length,(t:Int),(w.length:Int)) Z) (fun i=>((i:Int),jK (flo n w) (Z.take i))) t (fun i hi=>by
  obtain ⟨x,hx⟩:∃ x,Z[i]? = some x:=⟨_,Aa (by omega)⟩;have hxm:=zgb.1 ((z2.2.2 x).1 (Ad hx));have bl:(jK (flo n w) (Z.take i)).length=w.length:=by rw[zaB];simp[flo]
  have bg:(jK (flo n w) (Z.take i))[x.toNat]? = some ((jK (flo n w) (Z.take i)).getD x.toNat 0):=by simp[List.getD,show x.toNat < (jK (flo n w) (Z.take i)).length by omega]
  have bnd:∀ (is out:List Int) (M:Int),(∀ y∈out,0<=y∧y<=M)->∀ y∈jK out is,0<=y∧y<=M+is.length:=by
   intro is
   induction is with
   | nil=>intro out M hM y hy;have:=hM y hy;simp;omega
   | cons j is ih =>
    intro out M hM y hy;have:=ih (bump out j) (M+1) (fun z hz=>by
     rcases Cg hz with hz | rfl
     ·have:=hM z hz;omega
     ·by_cases hj:j.toNat < out.length
      ·have hv:0<=out.getD j.toNat 0∧out.getD j.toNat 0<=M:=hM _ (by simp[List.getD,hj]);change 0<=out.getD j.toNat 0+1∧out.getD j.toNat 0+1<=M+1;omega
      ·simp[bump,List.set_eq_of_length_le (show out.length<=j.toNat by omega)] at hz;have:=hM (out.getD j.toNat 0+1) (by simpa[List.getD] using hz);change 0<=out.getD j.toNat 0+1∧out.getD j.toNat 0+1<=M+1
       omega) y hy
    simp only[Ax,Cy,CS];omega
  have hb:=bnd (Z.take i) (flo n w) 1000000000000 (h.flo_in) _ (Ad bg)
  have hti:((Z.take i).length:Int)<=60:=by have:(Z.take i).length<=60:=by simp;omega
                                           omega
  simp only[zgJ,Am,Int.toNat_zero,CA,show (i:Int) < (t:Int) by omega,decide_true,zg,Ba];rw[zw (by constructor<;>first | omega | trivial),hx,zk,zw (by rw[bl];omega),bg,zk,zw (by rw[bl];omega)]
  simp only[zk,qR];rw[zJ (by omega) (by omega),zJ (by omega) (by omega),A6,hx];rw[show (Option.toList (some x))=[x] from rfl,zfD]
  rfl)
 have w6:=w5.trans (zD (y:=((t:Int),jK (flo n w) (Z.take t))) (by simp[zgJ]));rw[show ((0:Int),flo n w)=(((0:Nat):Int),jK (flo n w) (Z.take 0)) by simp[jK],w6,zN];simp
end
end
section
section
variable {n:Int} {w:List Int}
def P386_err (h:eV n w≠0):P386 n w=some ([],zA (eV n w)):=by
 unfold P386 S386;unfold eV at h ⊢;simp only[zeX,zk];by_cases hn:zdF n=true
 case neg=>rw[if_neg hn];simp[hn,zA]
 rw[if_pos hn] at h ⊢;simp only[hn,A4,za];by_cases hl:w.length=0∨60 < w.length
 ·rw[if_pos hl];rcases hl with hl | hl
  ·simp[hl,zA]
  ·simp[show (60:Int) < (w.length:Int) by omega,show ¬ ((w.length:Int)=0) by omega,zA]
 ·rw[if_neg hl] at h ⊢;simp only[show ¬ ((w.length:Int)=0) by omega,decide_false,za,show ¬ ((60:Int) < (w.length:Int)) by omega,zt,zN,zO];have w1:=zfL (B:=zbr P392 w) w (([]:List Int),Err.no 1) (by omega) (fun i x s hx=>by
   have hi:(i:Int) < (w.length:Int):=by have:=(Ac.1 hx).1;omega
   simp only[zbr,hi,decide_true,zg,zb,hx,zk,zeX];cases zdF x<;>simp) (fun s=>by simp[zbr])
  rw[w1];by_cases hv:w.all zdF=true
  ·rw[if_pos hv] at h;rw[if_pos hv,if_pos hv,zN];by_cases hs:w.sum=0
   ·simp[hs,zA]
   ·rw[if_neg hs] at h;exact absurd rfl h
  ·rw[if_neg hv,if_neg hv,jn_r];simp[zA]
def zfI (hl:w.length<=60):lpO (zaG w) (0,0)=some (if w.all zdF=true then .inl (w.sum,(w.length:Int)) else .inr ([],1)):=by
 have w1:=zfL (B:=fun x=>match zaG w (x.2,x.1) with | some (.nx y)=>some (.nx (y.2,y.1)) | some (.dn y)=>some (.dn (y.2,y.1)) | some (.fin a)=>some (.fin a) | none=>none) w (([]:List Int),(1:Int)) hl (fun i x s hx=>by
   have hi:(i:Int) < (w.length:Int):=by have:=(Ac.1 hx).1;omega
   simp only[zaG,hi,decide_true,zg,zb,hx,zk];unfold zdF;by_cases h0:x < 0
   ·simp[h0,show ¬ (0<=x∧x<=1000000) by omega]
   ·by_cases h1:1000000 < x
    ·simp[h0,h1,show ¬ (0<=x∧x<=1000000) by omega]
    ·simp[h0,h1,show (0<=x∧x<=1000000) by omega]) (fun s=>by simp[zaG])
 -- the same loop with its variables the other way round
 have conj:∀ (k:Nat) (x:Int×Int) (r),lpN (fun x=>match zaG w (x.2,x.1) with | some (.nx y)=>some (.nx (y.2,y.1)) | some (.dn y)=>some (.dn (y.2,y.1)) | some (.fin a)=>some (.fin a) | none=>none) k x=some r->lpN (zaG w) k (x.2,x.1)=some (match r with | .inl y=>.inl (y.2,y.1) | .inr a=>.inr a):=by
  intro k
  induction k with
  | zero=>intro x r h;simp[lpN] at h
  | succ k ih =>
   intro x r h;simp only[lpN] at h ⊢;cases hS:zaG w (x.2,x.1) with
   | none=>rw[hS] at h;simp at h
   | some z =>
    rw[hS] at h;cases z with
    | nx y=>exact ih (y.2,y.1) r h
    | dn y=>simp at h;subst h;rfl
    | fin a=>simp at h;subst h;rfl
 obtain ⟨k,hk⟩:=lQ w1;have:=zhz (conj k (0,0) _ hk);rw[this];by_cases hv:w.all zdF=true
 ·rw[if_pos hv,if_pos hv]
 ·rw[if_neg hv,if_neg hv]
def P385_err (h:eV n w≠0):P385 n w=some ([],eV n w):=by
 unfold P385 S385;unfold eV at h ⊢;by_cases hn:zdF n=true
 case neg =>
  rw[if_neg hn];have fv:¬ (0<=n∧n<=1000000):=fun q=>hn (qW.2 q);by_cases h0:n < 0
  ·simp[h0]
  ·simp[h0,show 1000000 < n by omega]
 rw[if_pos hn] at h ⊢;have fv:=qW.1 hn;simp only[show ¬ n < 0 by omega,show ¬ 1000000 < n by omega,decide_false,za,zt,zN];by_cases hl:w.length=0∨60 < w.length
 ·rw[if_pos hl];rcases hl with hl | hl
  ·simp[hl]
  ·simp[show (60:Int) < (w.length:Int) by omega,show ¬ ((w.length:Int)=0) by omega]
 ·rw[if_neg hl] at h ⊢;simp only[show ¬ ((w.length:Int)=0) by omega,decide_false,za,show ¬ ((60:Int) < (w.length:Int)) by omega,zt,zN,zO];rw[zfI (by omega)];by_cases hv:w.all zdF=true
  ·rw[if_pos hv] at h;rw[if_pos hv,if_pos hv,zN];by_cases hs:w.sum=0
   ·simp[hs]
   ·rw[if_neg hs] at h;exact absurd rfl h
  ·rw[if_neg hv,if_neg hv,jn_r]
def flags (m:Nat) (is:List Int):List Bool:=(List.range m).map fun (i:Nat)=>decide ((i:Int)∈is)
def yz {m:Nat} {is:List Int} {i:Nat} (h:i < m):(flags m is)[i]? = some (decide ((i:Int)∈is)):=by simp[flags,h]
def jT (m:Nat) (is:List Int):(flags m is).length=m:=by simp[flags]
def flags_set {m:Nat} {is:List Int} {b:Nat} (h:b < m):(flags m is).set b true=flags m (is++[(b:Int)]):=by
 refine Cn fun i => ?_;by_cases hi:i < m
 ·rw[yz hi,BR];by_cases e:b=i
  ·subst e;simp[jT,h]
  ·rw[if_neg e,yz hi];simp[show ¬ ((i:Int)=(b:Int)) by omega]
 ·rw[AR (by simp[jT];omega),AR (by simp[jT];omega)]
def best_eq (h:LikeOk n w) {Z:List Int} (hZ:Srt (zhD n w) Z (idx w.length)) {t:Nat} (ht:t < Z.length) (l:Int) (out:List Int) :
  ∃ b:Nat,(b:Int)=Z[t]∧b < w.length∧lpO (yL n w (w.sum,(w.length:Int)) (l,out,flags w.length (Z.take t))) (-1,0)=some (.inl ((b:Int),(w.length:Int))):=by
 obtain ⟨s1,s2⟩:=h.spos;have hbt:=zgb.1 ((hZ.2.2 Z[t]).1 (Ay ht));obtain ⟨b,hb⟩:∃ b:Nat,(b:Int)=Z[t]:=⟨Z[t].toNat,by omega⟩;have key:∀ i:Nat,i < w.length->∃ x,w[i]? = some x∧0<=n * x∧n * x<=1000000000000∧zhD n w (i:Int)=n * x % w.sum:=fun i hi=>(by refine ⟨w[i],Aa hi,(h.prod (Ay hi)).1,(h.prod (Ay hi)).2, ?_⟩;unfold zhD;simp[List.getD,hi])
 -- Z[t] is ahead of all others that are not there yet
 have rest:∀ j:Nat,j < w.length->¬ (j:Int)∈Z.take t->j=b∨ahead (zhD n w) (b:Int) (j:Int):=by
  intro j hj hn;have hm:(j:Int)∈Z:=(hZ.2.2 _).2 (zgb.2 (by omega));obtain ⟨k,hk,e⟩:=BF hm;have hkt:t<=k:=by
   rcases Nat.lt_or_ge k t with g | g
   ·exact absurd (by rw[← e];exact BL.2 ⟨k,by omega,rfl⟩) hn
   ·exact g
  rcases Bi hkt with g | g
  ·right;rw[hb,← e];exact ziI hZ.1 g hk
  ·left;subst g;omega
 have rp:¬ (b:Int)∈Z.take t:=(by intro hm;obtain ⟨k,hk,e⟩:=BL.1 hm;have:=ziI hZ.1 (show k < t by omega) ht;rw[e,hb] at this;exact zaF this);refine ⟨b,hb,by omega, ?_⟩
 obtain ⟨r,h1,h2⟩:=zdr (B:=yL n w (w.sum,(w.length:Int)) (l,out,flags w.length (Z.take t)))
  (fun x=>∃ i:Nat,x.2=(i:Int)∧i<=w.length∧((x.1 = -1∧∀ j:Nat,j < i->(j:Int)∈Z.take t)∨(∃ g:Nat,x.1=(g:Int)∧g < i∧¬ (g:Int)∈Z.take t∧∀ j:Nat,j < i->¬ (j:Int)∈Z.take t->j=g∨ahead (zhD n w) (g:Int) (j:Int))))
  (fun x=>w.length - x.2.toNat) (fun r=>r=.inl ((b:Int),(w.length:Int)))
  (by
   rintro ⟨g,q⟩ ⟨i,e,hi,hg⟩;simp only at e hg;subst e;by_cases gO:i < w.length
   ·obtain ⟨x,x1,x2,x3,x4⟩:=key i gO;have wI:wi ((i:Int)+1)=((i+1:Nat):Int):=by rw[zJ (by have:=h.l1;omega) (by have:=h.l1;omega)];omega
    by_cases aH:(i:Int)∈Z.take t
    ·have hB:yL n w (w.sum,(w.length:Int)) (l,out,flags w.length (Z.take t)) (g,(i:Int))=some (.nx (g,((i+1:Nat):Int))):=(by simp only[yL,show (i:Int) < (w.length:Int) by omega,decide_true,zg];rw[zw (by rw[jT];omega),Am,yz gO,zk,decide_eq_true aH];simp only[A4,za,zt,zN,qR,wI]);rw[hB];refine ⟨⟨i+1,rfl,by omega, ?_⟩,by simp;omega⟩;rcases hg with ⟨rfl,hg⟩ | ⟨g',rfl,g1,g2,g3⟩
     ·exact .inl ⟨rfl,fun j hj=>by
       rcases Bi (show j<=i by omega) with q | q
       ·exact hg j q
       ·rw[q];exact aH⟩
     ·exact .inr ⟨g',rfl,by omega,g2,fun j hj fC=>by
       rcases Bi (show j<=i by omega) with q | q
       ·exact g3 j q fC
       ·rw[q] at fC;exact absurd aH fC⟩
    ·rcases hg with ⟨rfl,hg⟩ | ⟨g',rfl,g1,g2,g3⟩
     ·have hB:yL n w (w.sum,(w.length:Int)) (l,out,flags w.length (Z.take t)) (-1,(i:Int))=some (.nx ((i:Int),((i+1:Nat):Int))):=(by simp only[yL,show (i:Int) < (w.length:Int) by omega,decide_true,zg];rw[zw (by rw[jT];omega),Am,yz gO,zk,decide_eq_false aH];simp[wI]);rw[hB];refine ⟨⟨i+1,rfl,by omega,.inr ⟨i,rfl,by omega,aH,fun j hj fC => ?_⟩⟩,by simp;omega⟩;rcases Bi (show j<=i by omega) with q | q
      ·exact absurd (hg j q) fC
      ·exact .inl q
     ·obtain ⟨y,y1,y2,y3,y4⟩:=key g' (by omega);have hB:yL n w (w.sum,(w.length:Int)) (l,out,flags w.length (Z.take t)) ((g':Int),(i:Int))=some (.nx (if zhD n w (g':Int) < zhD n w (i:Int) then (i:Int) else (g':Int),((i+1:Nat):Int))):=by
       simp only[yL,show (i:Int) < (w.length:Int) by omega,decide_true,zg];rw[zw (by rw[jT];omega),Am,yz gO,zk,decide_eq_false aH];simp only[B7,zg,show ¬ ((g':Int) < 0) by omega,decide_false,za,zb,x1,y1,zk,show ¬ (w.sum=0) by omega,not_false_eq_true,decide_true,jf,zt,zN];rw[zJ (by omega) (by omega),zJ (by omega) (by omega),BW y2,BW x2,x4,y4,zE]
       split<;>simp[wI]
      rw[hB];by_cases hk:zhD n w (g':Int) < zhD n w (i:Int)
      ·rw[if_pos hk];have ai:ahead (zhD n w) (i:Int) (g':Int):=.inl hk;refine ⟨⟨i+1,rfl,by omega,.inr ⟨i,rfl,by omega,aH,fun j hj fC => ?_⟩⟩,by simp;omega⟩;rcases Bi (show j<=i by omega) with q | q
       ·rcases g3 j q fC with e | e
        ·right;rw[e];exact ai
        ·exact .inr (qa ai e)
       ·exact .inl q
      ·rw[if_neg hk];refine ⟨⟨i+1,rfl,by omega,.inr ⟨g',rfl,by omega,g2,fun j hj fC => ?_⟩⟩,by simp;omega⟩;rcases Bi (show j<=i by omega) with q | q
       ·exact g3 j q fC
       ·right;rw[q];unfold ahead;omega
   ·obtain rfl:i=w.length:=by omega
    have hB:yL n w (w.sum,(w.length:Int)) (l,out,flags w.length (Z.take t)) (g,(w.length:Int))=some (.dn (g,(w.length:Int))):=by simp[yL]
    rw[hB];have lC:b < w.length:=by omega
    rcases hg with ⟨rfl,hg⟩ | ⟨g',rfl,g1,g2,g3⟩
    ·exact absurd (hg b lC) rp
    ·have e:g'=b:=by
      rcases g3 b lC rp with q | q
      ·exact q.symm
      ·rcases rest g' g1 g2 with q2 | q2
       ·exact q2
       ·exact (zaF (qa q q2)).elim
     simp[e]) (-1,0) ⟨0,rfl,by omega,.inl ⟨rfl,fun j hj=>by omega⟩⟩
 rw[h1,h2]
def bumps_in:∀ (is out:List Int) (M:Int),(∀ y∈out,0<=y∧y<=M)->∀ y∈jK out is,0<=y∧y<=M+is.length:=by
 intro is
 induction is with
 | nil=>intro out M hM y hy;have:=hM y hy;simp;omega
 | cons j is ih =>
  intro out M hM y hy;have:=ih (bump out j) (M+1) (fun z hz=>by
   rcases Cg hz with hz | rfl
   ·have:=hM z hz;omega
   ·by_cases hj:j.toNat < out.length
    ·have hv:0<=out.getD j.toNat 0∧out.getD j.toNat 0<=M:=hM _ (by simp[List.getD,hj]);change 0<=out.getD j.toNat 0+1∧out.getD j.toNat 0+1<=M+1;omega
    ·simp[bump,List.set_eq_of_length_le (show out.length<=j.toNat by omega)] at hz;have:=hM (out.getD j.toNat 0+1) (by simpa[List.getD] using hz);change 0<=out.getD j.toNat 0+1∧out.getD j.toNat 0+1<=M+1
     omega) y hy
  simp only[Ax,Cy,CS];omega
def P385_ok (h:LikeOk n w) {Z:List Int} (hZ:Srt (zhD n w) Z (idx w.length)):P385 n w=some (jK (flo n w) (Z.take (zbh n w).toNat),0):=by
 obtain ⟨s1,s2⟩:=h.spos;have l0:=h.l0;have l1:=h.l1;have n0:=h.n0;have zl:Z.length=w.length:=by rw[hZ.2.1,zea]
 unfold P385 S385;simp only[show ¬ n < 0 by omega,show ¬ 1000000 < n by omega,decide_false,za,zt,zN,show ¬ ((w.length:Int)=0) by omega,show ¬ ((60:Int) < (w.length:Int)) by omega,zO];rw[zfI l1,if_pos (Ae.2 fun x hx=>qW.2 (h.wv x hx)),zN];simp only[show ¬ (w.sum=0) by omega,decide_false,za];have w2:=zU (B:=zeJ n w (w.sum,(w.length:Int))) (fun i=>(((flo n w).take i),n - ((flo n w).take i).sum,(i:Int))) w.length (fun i hi=>by
  obtain ⟨x,hx⟩:∃ x,w[i]? = some x:=⟨_,Aa hi⟩;obtain ⟨p1,p2⟩:=h.prod (Ad hx);have q1:=CT p1 (show 0<=w.sum by omega);have q2:=CO w.sum p1;have fg:=flo_get (n:=n) hx;have ft:(flo n w).take (i+1)=(flo n w).take i++[n * x / w.sum]:=by rw[A6,fg];rfl
  have ftl:((flo n w).take i).length=i:=by simp[flo];omega
  have cut:=h.cut i;have oS:=h.cut (i+1);have st:((flo n w).take (i+1)).sum=((flo n w).take i).sum+n * x / w.sum:=by rw[ft];simp
  simp only[zeJ,show (i:Int) < (w.length:Int) by omega,decide_true,zg,zb,hx,zk,show ¬ (w.sum=0) by omega,not_false_eq_true,jf];rw[zJ (n:=n * x) (by omega) (by omega),CG p1,zJ (n:=n * x / w.sum) (by omega) (by omega),← ft];rw[zw (by simp[ftl,zH];omega),qR,zJ (by omega) (by omega),zJ (by omega) (by omega),st];rw[show n - ((flo n w).take i).sum - n * x / w.sum=n - (((flo n w).take i).sum+n * x / w.sum) by omega]
  rfl)
 have ff:(flo n w).take w.length=flo n w:=Bf (by simp[flo]);have w4:lpO (zeJ n w (w.sum,(w.length:Int))) (([]:List Int),n,(0:Int))=some (.inl (flo n w,zbh n w,(w.length:Int))):=(by have:=w2.trans (zD (y:=(((flo n w).take w.length),n - ((flo n w).take w.length).sum,(w.length:Int))) (by simp[zeJ]));rw[ff] at this;simpa[zbh] using this);rw[w4,zN];obtain ⟨t1,t2⟩:=h.left;obtain ⟨t,ht⟩:∃ t:Nat,zbh n w=t:=⟨(zbh n w).toNat,by omega⟩;rw[zw (by unfold zH;omega)];simp only[ht,Am];have w5:=zU (B:=zgK n w (w.sum,(w.length:Int))) (fun i=>(((t - i:Nat):Int),jK (flo n w) (Z.take i),flags w.length (Z.take i))) t (fun i hi=>by
  obtain ⟨b,b1,b2,b3⟩:=best_eq h hZ (t:=i) (by omega) ((t - i:Nat):Int) (jK (flo n w) (Z.take i));have bl:(jK (flo n w) (Z.take i)).length=w.length:=by rw[zaB];simp[flo]
  have bg:(jK (flo n w) (Z.take i))[b]? = some ((jK (flo n w) (Z.take i)).getD b 0):=by simp[List.getD,show b < (jK (flo n w) (Z.take i)).length by omega]
  have hb:=bumps_in (Z.take i) (flo n w) 1000000000000 (h.flo_in) _ (Ad bg)
  have hti:((Z.take i).length:Int)<=60:=by have:(Z.take i).length<=60:=by simp;omega
                                           omega
  have zi:Z[i]? = some (b:Int):=by rw[b1];exact Aa (by omega)
  simp only[zgK,show (0:Int) < ((t - i:Nat):Int) by omega,decide_true,zg,zO];rw[b3,zN];simp only[Am];rw[zw (by rw[jT];omega),yz b2,zk,zw (by rw[bl];omega),bg,zk,zw (by rw[bl];omega)];simp only[zk,qR];rw[zJ (by omega) (by omega),zJ (by omega) (by omega),flags_set b2,A6,zi];rw[show (Option.toList (some (b:Int)))=[(b:Int)] from rfl,zfD,show ((t - i:Nat):Int) - 1=((t - (i+1):Nat):Int) by omega]
  rfl)
 have w6:=w5.trans (zD (y:=(((t - t:Nat):Int),jK (flo n w) (Z.take t),flags w.length (Z.take t))) (by simp[zgK]));have e0:List.replicate w.length false=flags w.length (Z.take 0):=by
  refine Cn fun i => ?_;by_cases hi:i < w.length
  ·rw[yz hi];simp[hi]
  ·rw[AR (by simp;omega),AR (by simp[jT];omega)]
 rw[e0,show ((t:Int),flo n w,flags w.length (Z.take 0))=(((t - 0:Nat):Int),jK (flo n w) (Z.take 0),flags w.length (Z.take 0)) by simp[jK],w6,zN]
end
end
section
def jD (n:Int) (m:Nat):List Int:=(List.range m).map fun (i:Nat)=>n / (m:Int)+if (i:Int) < n % (m:Int) then 1 else 0
def yA (n:Int) (m:Nat):(jD n m).length=m:=by simp[jD]
def zhT {n:Int} {m i:Nat} (h:i < m):(jD n m)[i]? = some (n / (m:Int)+if (i:Int) < n % (m:Int) then 1 else 0):=by simp[jD,h]
def wZ (n p:Int):List Int×Int:=if zdF n=true∧1<=p∧p<=60 then (jD n p.toNat,0) else ([],1)
def oY {n:Int} {m:Nat} (hn:zdF n=true) (hm:1<=m∧m<=60):Int.tdiv n m=n / m∧Int.tmod n m=n % m∧0<=n / (m:Int)∧n / (m:Int)<=1000000:=by have fv:=qW.1 hn;refine ⟨CG fv.1,BW fv.1,CT fv.1 (by omega),CR (CO _ fv.1) fv.2⟩
def P384_eq (n p:Int):P384 n p=some ((wZ n p).1,zA (wZ n p).2):=by
 unfold P384 S384 wZ;simp only[zeX,zk];by_cases hn:zdF n=true
 case neg=>simp[hn,zA]
 by_cases h1:p < 1
 ·simp[hn,h1,show ¬ (1<=p∧p<=60) by omega,zA]
 by_cases h2:60 < p
 ·simp[hn,h1,h2,show ¬ (1<=p∧p<=60) by omega,zA]
 obtain ⟨m,rfl⟩:∃ m:Nat,p=m:=⟨p.toNat,by omega⟩;have hm:1<=m∧m<=60:=by omega
 rw[if_pos ⟨hn,by omega,by omega⟩];obtain ⟨e1,e2,e3,e4⟩:=oY hn hm;simp only[hn,A4,za,h1,decide_false,h2,zt,zN,Am,zO];rw[zw (by unfold zH;omega)];have hs:=zU (B:=zgL n (m:Int)) (fun i=>((i:Int),(jD n m).take i++List.replicate (m - i) 0)) m (fun i hi=>by
  have fc:((jD n m).take i).length=i:=by simp[yA];omega
  have rep:List.replicate (m - i) (0:Int)=0 :: List.replicate (m - (i+1)) 0:=by rw[show m - i=m - (i+1)+1 by omega];rfl
  have g0:∀ v,((jD n m).take i++v :: List.replicate (m - (i+1)) (0:Int))[i]? = some v:=fun v=>by rw[AK (by omega),fc];simp
  have st:∀ u v:Int,((jD n m).take i++u :: List.replicate (m - (i+1)) (0:Int)).set i v=(jD n m).take i++v :: List.replicate (m - (i+1)) 0:=fun u v=>(by have:=ziy ((jD n m).take i) (List.replicate (m - (i+1)) 0) v u i fc.symm;exact this);have ln:∀ v:Int,((jD n m).take i++v :: List.replicate (m - (i+1)) (0:Int)).length=m:=fun v=>by simp[yA];omega
  have fin:∀ v,(jD n m)[i]? = some v->(jD n m).take i++v :: List.replicate (m - (i+1)) 0=(jD n m).take (i+1)++List.replicate (m - (i+1)) 0:=fun v hv=>by rw[A6,hv];simp
  have wI:wi ((i:Int)+1)=((i+1:Nat):Int):=by rw[zJ (by omega) (by omega)];omega
  simp only[zgL,BX,Am,show (i:Int) < (m:Int) by omega,decide_true,zg,show ¬ ((m:Int)=0) by omega,not_false_eq_true,jf];rw[rep,zw (by rw[ln];omega),g0,zk,e1,e2,zJ (n:=n / (m:Int)) (by omega) (by omega)];simp only[st,g0,zk];have gi:=zhT (n:=n) hi;by_cases hc:(i:Int) < n % (m:Int)
  ·rw[if_pos hc] at gi;rw[decide_eq_true hc,zg,zw (by rw[ln];omega),zw (by rw[ln];omega),zt,zN,wI,zJ (n:=n / (m:Int)+1) (by omega) (by omega),fin _ gi];rfl
  ·rw[if_neg hc,Int.add_zero] at gi;rw[decide_eq_false hc,za,zt,zN,wI,fin _ gi]
   rfl)
 have h0:=hs.trans (zD (y:=((m:Int),(jD n m).take m++List.replicate (m - m) 0)) (by simp[zgL]));have hf:(jD n m).take m++List.replicate (m - m) 0=jD n m:=by rw[Bf (by rw[yA];exact AG _)];simp
 rw[hf] at h0;rw[show ((0:Int),List.replicate m (0:Int))=(((0:Nat):Int),(jD n m).take 0++List.replicate (m - 0) 0) by simp,h0,zN];rfl
def P383_eq (n p:Int):P383 n p=some (wZ n p):=by
 unfold P383 S383 wZ;by_cases hn:zdF n=true
 case neg =>
  have fv:¬ (0<=n∧n<=1000000):=fun q=>hn (qW.2 q);by_cases h0:n < 0
  ·simp[h0,hn]
  ·simp[h0,hn,show 1000000 < n by omega]
 have fv:=qW.1 hn;by_cases h1:p < 1
 ·simp[h1,show ¬ n < 0 by omega,show ¬ 1000000 < n by omega,show ¬ (1<=p∧p<=60) by omega]
 by_cases h2:60 < p
 ·simp[h1,h2,show ¬ n < 0 by omega,show ¬ 1000000 < n by omega,show ¬ (1<=p∧p<=60) by omega]
 obtain ⟨m,rfl⟩:∃ m:Nat,p=m:=⟨p.toNat,by omega⟩;have hm:1<=m∧m<=60:=by omega
 rw[if_pos ⟨hn,by omega,by omega⟩];obtain ⟨e1,e2,e3,e4⟩:=oY hn hm;simp only[show ¬ n < 0 by omega,show ¬ 1000000 < n by omega,h1,decide_false,za,h2,zt,zN,Am,zO];have hs:=zU (B:=zgM n (m:Int)) (fun i=>((jD n m).take i,(i:Int))) m (fun i hi=>by
  have fc:((jD n m).take i).length=i:=by simp[yA];omega
  have fin:∀ v,(jD n m)[i]? = some v->(jD n m).take i++[v]=(jD n m).take (i+1):=fun v hv=>by rw[A6,hv];rfl
  have wI:wi ((i:Int)+1)=((i+1:Nat):Int):=by rw[zJ (by omega) (by omega)];omega
  simp only[zgM,show (i:Int) < (m:Int) by omega,decide_true,zg,show ¬ ((m:Int)=0) by omega,not_false_eq_true,jf];rw[e1,e2,zJ (n:=n / (m:Int)) (by omega) (by omega)];have gi:=zhT (n:=n) hi;by_cases hc:(i:Int) < n % (m:Int)
  ·rw[if_pos hc] at gi;rw[decide_eq_true hc,zg,zt,zN,zJ (n:=n / (m:Int)+1) (by omega) (by omega),zw (by simp[fc,zH];omega),wI,fin _ gi];rfl
  ·rw[if_neg hc,Int.add_zero] at gi;rw[decide_eq_false hc,za,zt,zN,zw (by simp[fc,zH];omega),wI,fin _ gi]
   rfl)
 have h0:=hs.trans (zD (y:=((jD n m).take m,(m:Int))) (by simp[zgM]));have hf:(jD n m).take m=jD n m:=Bf (by rw[yA];exact AG _);rw[hf] at h0;rw[show (([]:List Int),(0:Int))=((jD n m).take 0,((0:Nat):Int)) by simp,h0,zN]
open Classical in
def ordL (n:Int) (w:List Int):List Int:=if h:∃ Z,Srt (zhD n w) Z (idx w.length) then choose h else []
def zbg (n:Int) (w:List Int):List Int×Int:=if eV n w=0 then (jK (flo n w) ((ordL n w).take (zbh n w).toNat),0) else ([],eV n w)
def ordL_ok {n:Int} {w:List Int} (h:LikeOk n w):Srt (zhD n w) (ordL n w) (idx w.length):=by obtain ⟨Z,z,_⟩:=P386_ok h;have hz:∃ Z,Srt (zhD n w) Z (idx w.length):=⟨Z,z⟩;unfold ordL;rw[dif_pos hz];exact Classical.choose_spec hz
def P386_eq (n:Int) (w:List Int):P386 n w=some ((zbg n w).1,zA (zbg n w).2):=by
 unfold zbg;by_cases h:eV n w=0
 ·rw[if_pos h];obtain ⟨Z,z1,z2⟩:=P386_ok (kx.1 h);have o:=ordL_ok (kx.1 h);have e:Z=ordL n w:=ord_ext z1.1 o.1 fun x=>by rw[z1.2.2,o.2.2]
  rw[z2,e];rfl
 ·rw[if_neg h,P386_err h]
def P385_eq (n:Int) (w:List Int):P385 n w=some (zbg n w):=by
 unfold zbg;by_cases h:eV n w=0
 ·rw[if_pos h,P385_ok (kx.1 h) (ordL_ok (kx.1 h))]
 ·rw[if_neg h,P385_err h]
def P388_eq (a b:List Edit) (h:a.length<=9223372036854775807) (hp:∀ e∈a,e.at_.length<=9223372036854775807):P388 a b=some (decide (a=b)):=by
 simp only[P388,S388];by_cases hl:a.length=b.length
 ·have e:((a.length:Nat):Int)=((b.length:Nat):Int):=by omega
  simp only[e,not_true,decide_false,za];refine zdO a b hl (fun i x y hx hy => ?_) (by simp[zji]);have hi:=(Ac.1 hx).1;have e:((i:Nat):Int) < ((a.length:Nat):Int):=by omega
  simp only[zji,e,decide_true,zg,zb,hx,hy,zk,P28_eq _ _ (hp x (Ad hx))];rw[zJ (by omega) (by omega)];obtain ⟨p1,n1,c1⟩:=x;obtain ⟨p2,n2,c2⟩:=y;simp only[Edit.mk.injEq];by_cases e1:p1=p2<;>by_cases e2:n1=n2<;>by_cases e3:c1=c2<;>simp[e1,e2,e3]
 ·have e:¬ ((a.length:Nat):Int)=((b.length:Nat):Int):=by omega
  have e2:¬ a=b:=fun e=>hl (by rw[e]);simp[e,e2]
def ziO {o:List Dim} {p q:List Int} (ok:OutOk o) (hf:Fit o p) (hq:q∈zx o p):Fit o q∧wF o q=true∧(pwL (cx o p q)).isSome=true:=by rw[← zci ok hf] at hq;obtain ⟨h1,h2⟩:=BC.1 hq;obtain ⟨n,_,rfl⟩:=Aj.1 h1;simp only[jv,An] at h2;exact ⟨zkb ok n,h2.1,h2.2⟩
def zjZ {o:List Dim} {p:List Int} (ok:OutOk o) (hf:Fit o p):(zx o p).length<=1000000:=by rw[← zci ok hf];obtain ⟨aM,hle⟩:=ok.sizeN;refine AL (Bo _ _) ?_;simp;omega
def zii (l:List Entry) (q:List Int):Int:=(gU (getL l q)).n
def wO (o:List Dim) (l:List Entry) (p:List Int) (n:Int):List Edit×Int :=
 if zen o l=0 then
  if yP o p=0 then
   if (zx o p).length=0∨(zx o p).any (fun q => !decide ((pwR (cx o p q)).1=1))=true then ([],3)
   else if 60 < (zx o p).length then ([],4)
   else
    let was:=(zx o p).map (zii l)
    let r:=if was.any (fun k=>decide (0 < k))=true∧was.any (fun k=>decide (k < 0))=false then zbg n was else wZ n (zx o p).length
    if r.2=0 then ((zx o p).zipWith (fun q k=>⟨q,k,false⟩) r.1,0) else ([],r.2)
  else ([],yP o p)
 else ([],zen o l)
def zda (L:List (List Int)) (r:List Int):List Edit:=L.zipWith (fun q k=>⟨q,k,false⟩) r
def zfx {L:List (List Int)} {r:List Int} {i:Nat} {q:List Int} {k:Int} (h1:L[i]? = some q) (h2:r[i]? = some k):(zda L r).take i++[⟨q,k,false⟩]=(zda L r).take (i+1):=by
 have e:(zda L r)[i]? = some ⟨q,k,false⟩:=by unfold zda;rw[List.getElem?_zipWith,h1,h2]
 rw[A6,e];rfl
def zhB {n:Int} {w:List Int} (h:(zbg n w).2=0):(zbg n w).1.length=w.length:=by
 unfold zbg at h ⊢;split
 ·rw[zaB];simp[flo]
 ·rename_i c;rw[if_neg c] at h;exact absurd h c
def zhS {n:Int} {m:Nat} (h:(wZ n m).2=0):(wZ n m).1.length=m:=by
 unfold wZ at h ⊢;split
 ·simp[yA]
 ·rename_i c;rw[if_neg c] at h;cases h
section
variable {o:List Dim} {l:List Entry} {p:List Int} {n:Int}
def zjz {α:Type} {B:(Bool×Bool×List Int×Int)->Option (LR (Bool×Bool×List Int×Int) α)} (L:List (List Int)) (f:List Int->Int) (bad:List Int->Bool) (r:α) (hL:L.length<=1000000)
  (step:∀ (i:Nat) (q:List Int) (a b:Bool) (w:List Int),L[i]? = some q->w.length<=1000000->B (a,b,w,(i:Int))=some (if bad q=true then .fin r else .nx (a || decide (0 < f q),b || decide (f q < 0),w++[f q],(i:Int)+1)))
  (hn:∀ a b w,B (a,b,w,(L.length:Int))=some (.dn (a,b,w,(L.length:Int)))) :
  lpO B (false,false,[],0)=some (if L.any bad=true then .inr r else .inl ((L.map f).any (fun k=>decide (0 < k)),(L.map f).any (fun k=>decide (k < 0)),L.map f,(L.length:Int))):=by
 have all:∀ (zs:List (List Int)) (i:Nat),L.drop i=zs->i<=L.length->lpO B ((((L.take i).map f).any fun k=>decide (0 < k)),(((L.take i).map f).any fun k=>decide (k < 0)),(L.take i).map f,(i:Int))=some (if zs.any bad=true then .inr r else .inl ((L.map f).any (fun k=>decide (0 < k)),(L.map f).any (fun k=>decide (k < 0)),L.map f,(L.length:Int))):=by
  intro zs
  induction zs with
  | nil =>
   intro i e hi;have:i=L.length:=by have:=congrArg List.length e;simp at this;omega
   subst this;rw[zD (hn _ _ _)];simp
  | cons q zs ih =>
   intro i e hi;have hx:L[i]? = some q:=(by have:=congrArg (fun l=>l[0]?) e;simpa using this);have gO:i < L.length:=(Ac.1 hx).1;have hs:=step i q (((L.take i).map f).any fun k=>decide (0 < k)) (((L.take i).map f).any fun k=>decide (k < 0)) ((L.take i).map f) hx (by simp;omega);cases hv:bad q with
   | true =>rw[if_pos hv] at hs;rw[jc hs];simp[hv]
   | false =>rw[if_neg (by simp[hv])] at hs;have:=ih (i+1) (by rw[← List.drop_drop,e];simp) (by omega);rw[A6,hx] at this;simp only[Option.toList,A7,Ar,Bk,List.any_append,Ct,List.any_nil,Bool.or_false,Cy,CS] at this;rw[z6 hs];rw[this];simp[hv]
 have:=all L 0 rfl (by omega);simpa using this
def P382_eq (hl:Lst Entry.gd l) (hp:p.length<=9223372036854775807):P382 o l p n=some ((wO o l p n).1,zA (wO o l p n).2):=by
 unfold P382 S382;simp only[P349_eq hl,zk,zP,P127_eq o p hp];unfold wO;by_cases hc:zen o l=0
 case neg=>rw[if_neg hc];simp[hc]
 rw[if_pos hc];have aV:EntsOk o l:=ziY.1 (by unfold zen at hc;split at hc<;>first | exact hc | (rename_i g;exact absurd hc g))
 have he:jt o p=yP o p:=by unfold jt;rw[if_pos (zbD.2 aV.out)]
 by_cases hf:yP o p=0
 case neg =>
  rw[if_neg hf];simp[hc,he,hf,zA]
 have fit:=wX.1 hf;have lX:jt o p=0:=by rw[he];exact hf
 have nK:=zjZ aV.out fit;rw[if_pos hf,if_pos lX];simp only[hc,decide_true,A4,za,zam];by_cases h0:(zx o p).length=0
 ·simp[h0,zA]
 simp only[show ¬ (((zx o p).length:Int)=0) by omega,decide_false,za,zO,h0,false_or];have wl:=zjz (B:=zgO P111 P57 o l p (zx o p,Err.nil)) (zx o p) (zii l) (fun q => !decide ((pwR (cx o p q)).1=1)) (([]:List Edit),Err.no 3) nK (fun i q a b w hq hw=>by
  have hi:=(Ac.1 hq).1;obtain ⟨f1,f2,f3⟩:=ziO aV.out fit (Ad hq);have gG:q.length<=9223372036854775807:=by rw[f1.len,← fit.len];exact hp
  have hqe:jt o q=0:=zdo.2 ⟨aV.out,f1⟩;simp only[zgO,show (i:Int) < ((zx o p).length:Int) by omega,decide_true,zg,zb,hq,zk,P111_eq o p q hp gG,if_pos lX,if_pos hqe,f2,f3,CN,if_true,zam,A4,za];by_cases kK:(pwR (cx o p q)).1=1
  ·simp only[kK,not_true,decide_false,za,decide_true,A4,if_false,P57_eq (ris_of aV.rise) hl gG,zk];have bC:w.length+1<=zH:=by unfold zH;omega
   have nc:wi ((i:Int)+1)=(i:Int)+1:=zJ (by omega) (by omega);cases a<;>cases b<;>simp[zii,bC,nc]<;>first | rfl | exact ⟨rfl,rfl⟩ | congr | exact ⟨by congr,by congr⟩
  ·simp[kK]) (fun a b w=>by simp[zgO])
 rw[wl];by_cases cV:(zx o p).any (fun q => !decide ((pwR (cx o p q)).1=1))=true
 ·rw[if_pos cV,if_pos cV,jn_r];simp[zA]
 rw[if_neg cV,if_neg cV,zN];by_cases iQ:60 < (zx o p).length
 ·simp[iQ,show (60:Int) < ((zx o p).length:Int) by omega,zA]
 rw[if_neg iQ];simp only[show ¬ (60:Int) < ((zx o p).length:Int) by omega,decide_false,za,P384_eq,zk];generalize kN:((zx o p).map (zii l)).any (fun k=>decide (0 < k))=sm;generalize kY:((zx o p).map (zii l)).any (fun k=>decide (k < 0))=ls;generalize hr:(if sm=true∧ls=false then zbg n ((zx o p).map (zii l)) else wZ n (zx o p).length)=r
 have kO:r.2=0->r.1.length=(zx o p).length:=by
  intro h;subst hr;by_cases lu:sm=true∧ls=false
  ·rw[if_pos lu] at h ⊢;rw[zhB h,Ao]
  ·rw[if_neg lu] at h ⊢;exact zhS h
 have eB:∀ {α:Type} (K:Err×List Int->Option α),(jn (σ:=Bool) (α:=α) (br sm (zq (some (!ls))) (zq (some false))) fun bn =>
   jn (σ:=Err×List Int) (α:=α) (br bn (bno (P386 n ((zx o p).map (zii l))) fun cC=>zq (some (cC.2,cC.1))) (zq (some (zA (wZ n (zx o p).length).2,(wZ n (zx o p).length).1)))) K)=K (zA r.2,r.1):=by
  intro α K;subst hr;cases sm<;>cases ls<;>simp[P386_eq]
 rw[eB];simp only[zP];by_cases hz:r.2=0
 case neg=>simp[hz]
 have kO:=kO hz;simp only[hz,decide_true,A4,za,if_true,zO];have hs:=zU (B:=zgN (zx o p,Err.nil) (zA 0,r.1)) (fun i=>((zda (zx o p) r.1).take i,(i:Int))) (zx o p).length (fun i hi=>by
  have g1:=Aa hi;have g2:=Aa (show i < r.1.length by omega);simp only[zgN,show (i:Int) < ((zx o p).length:Int) by omega,decide_true,zg,zb,g1,g2,zk];rw[zw (by simp[roomB];omega),zfx g1 g2,zJ (by omega) (by omega)]
  rfl)
 have h0:=hs.trans (zD (y:=((zda (zx o p) r.1).take (zx o p).length,((zx o p).length:Int))) (by simp[zgN]));rw[show (([]:List Edit),(0:Int))=((zda (zx o p) r.1).take 0,((0:Nat):Int)) by simp,h0,zN];rw[Bf (by simp[zda];omega)];rfl
def P387_eq (hl:Lst Entry.gd l) (hp:p.length<=9223372036854775807):P387 o l p n=some (wO o l p n):=by
 unfold P387 S387;simp only[P335_eq o l hl,zk];unfold wO;by_cases hc:zen o l=0
 case neg=>rw[if_neg hc];simp[hc]
 rw[if_pos hc];have aV:EntsOk o l:=ziY.1 (by unfold zen at hc;split at hc<;>first | exact hc | (rename_i g;exact absurd hc g))
 simp only[hc,decide_true,zg,P123_eq o p hp,zk,zt,zN];by_cases hf:yP o p=0
 case neg =>
  rw[if_neg hf];simp[hf]
 have fit:=wX.1 hf;have nK:=zjZ aV.out fit;rw[if_pos hf];simp only[hf,not_true,decide_false,za,P126_eq aV.out fit,zci aV.out fit,zk];by_cases h0:(zx o p).length=0
 ·simp[h0]
 simp only[show ¬ (((zx o p).length:Int)=0) by omega,decide_false,za,zO,h0,false_or];have wl:=zjz (B:=zgI P129 P134 o l p (zx o p)) (zx o p) (zii l) (fun q => !decide ((pwR (cx o p q)).1=1)) (([]:List Edit),(3:Int)) nK (fun i q a b w hq hw=>by
  have hi:=(Ac.1 hq).1;obtain ⟨f1,f2,f3⟩:=ziO aV.out fit (Ad hq);have gG:q.length<=9223372036854775807:=by rw[f1.len,← fit.len];exact hp
  simp only[zgI,show (i:Int) < ((zx o p).length:Int) by omega,decide_true,zg,zb,hq,zk,P129_eq aV.out fit f1];by_cases kK:(pwR (cx o p q)).1=1
  ·simp only[kK,not_true,decide_false,za,decide_true,A4,if_false,P134_eq hl gG,zk];have bC:w.length+1<=zH:=by unfold zH;omega
   have nc:wi ((i:Int)+1)=(i:Int)+1:=zJ (by omega) (by omega);cases a<;>cases b<;>simp[zii,bC,nc]<;>first | rfl | exact ⟨rfl,rfl⟩ | congr | exact ⟨by congr,by congr⟩
  ·simp[kK]) (fun a b w=>by simp[zgI])
 rw[wl];by_cases cV:(zx o p).any (fun q => !decide ((pwR (cx o p q)).1=1))=true
 ·rw[if_pos cV,if_pos cV,jn_r]
 rw[if_neg cV,if_neg cV,zN];by_cases iQ:60 < (zx o p).length
 ·simp[iQ,show (60:Int) < ((zx o p).length:Int) by omega]
 rw[if_neg iQ];simp only[show ¬ (60:Int) < ((zx o p).length:Int) by omega,decide_false,za,P383_eq,zk];generalize kN:((zx o p).map (zii l)).any (fun k=>decide (0 < k))=sm;generalize kY:((zx o p).map (zii l)).any (fun k=>decide (k < 0))=ls;generalize hr:(if sm=true∧ls=false then zbg n ((zx o p).map (zii l)) else wZ n (zx o p).length)=r
 have kO:r.2=0->r.1.length=(zx o p).length:=by
  intro h;subst hr;by_cases lu:sm=true∧ls=false
  ·rw[if_pos lu] at h ⊢;rw[zhB h,Ao]
  ·rw[if_neg lu] at h ⊢;exact zhS h
 have eB:∀ {α:Type} (K:Int×List Int->Option α),(jn (σ:=Bool) (α:=α) (br sm (zq (some (!ls))) (zq (some false))) fun bD =>
   jn (σ:=Int×List Int) (α:=α) (br bD (bno (P385 n ((zx o p).map (zii l))) fun dL=>zq (some (dL.2,dL.1))) (zq (some ((wZ n (zx o p).length).2,(wZ n (zx o p).length).1)))) K)=K (r.2,r.1):=by
  intro α K;subst hr;cases sm<;>cases ls<;>simp[P385_eq]
 simp only[zt] at eB;rw[eB];by_cases hz:r.2=0
 case neg=>simp[hz]
 have kO:=kO hz;simp only[hz,not_true,decide_false,za,if_true,zO];have hs:=zU (B:=zgH (zx o p) (0,r.1)) (fun i=>((zda (zx o p) r.1).take i,(i:Int))) (zx o p).length (fun i hi=>by
  have g1:=Aa hi;have g2:=Aa (show i < r.1.length by omega);simp only[zgH,show (i:Int) < ((zx o p).length:Int) by omega,decide_true,zg,zb,g1,g2,zk];rw[zw (by simp[roomB];omega),zfx g1 g2,zJ (by omega) (by omega)]
  rfl)
 have h0:=hs.trans (zD (y:=((zda (zx o p) r.1).take (zx o p).length,((zx o p).length:Int))) (by simp[zgH]));rw[show (([]:List Edit),(0:Int))=((zda (zx o p) r.1).take 0,((0:Nat):Int)) by simp,h0,zN];rw[Bf (by simp[zda];omega)];rfl
end
end
end Ab
