import Derived.Test.YtckaniphjiniiaaGreatDoorS1
import Derived.Test.YtckaniphjiniiaaGreatDoorMSe
import Derived.Test.YtckaniphjiniiaaGreatDoorS3
import Derived.Test.YtckaniphjiniiaaGreatDoorHK
set_option linter.all false
noncomputable section
namespace Ab
open Go
section
def dj (n:Int):Bool:=decide (0<=n∧n<=1000000)
def j9 {n:Int}:dj n=true↔0<=n∧n<=1000000:=by simp[dj]
def zfp (n:Int):P392 n=some (dj n):=by
 unfold P392 S392 dj;by_cases h:0<=n
 ·simp[h]
 ·simp[h]
def gm (n:Int) (w:List Int):Int:=if dj n=true then (if w.length=0∨60<w.length then 4 else if w.all dj=true then (if w.sum=0 then 3 else 0) else 1) else 1
structure LikeOk (n:Int) (w:List Int):Prop where
 n0:0<=n∧n<=1000000
 l0:0<w.length
 l1:w.length<=60
 wv:∀x∈w,0<=x∧x<=1000000
 s0:w.sum≠0
def zcy {n:Int} {w:List Int}:gm n w=0↔LikeOk n w:=by
 unfold gm;constructor
 ·intro h;split at h
  ·rename_i h1;split at h
   ·cases h
   ·rename_i h2;split at h
    ·rename_i h3;split at h
     ·cases h
     ·rename_i h4;exact⟨j9.1 h1,by omega,by omega,fun x hx=>j9.1 (Af.1 h3 x hx),h4⟩
    ·cases h
  ·cases h
 ·intro h;have:=h.l0;have:=h.l1;rw[if_pos (j9.2 h.n0),if_neg (by omega),if_pos (Af.2 fun x hx=>j9.2 (h.wv x hx)),if_neg h.s0]
def zfJ {l:List Int} {M:Int} (h:∀x∈l,0<=x∧x<=M):0<=l.sum∧l.sum<=l.length*M:=by
 induction l with
 | nil=>simp
 | cons a l ih =>obtain⟨h1,h2⟩:=ih fun x hx=>h x (by simp[hx]);have:=h a (by simp);simp only[B6,Ax,CN,C5,Dk,C3];omega
def zkT (w:List Int) (i:Nat) (x:Int) (h:w[i]? = some x):(w.take (i+1)).sum=(w.take i).sum+x:=by rw[BL,h];simp
def zkK {α:Type} {B:Int×Int->Option (LR (Int×Int) α)} (w:List Int) (r:α) (hlen:w.length<=60)
  (step:∀(i:Nat) (x s:Int),w[i]? = some x->B ((i:Int),s)=some (if dj x=true then .nx (wi ((i:Int)+1),wi (s+x)) else .fin r))
  (hn:∀s,B ((w.length:Int),s)=some (.dn ((w.length:Int),s))) :
  lpO B (0,0)=some (if w.all dj=true then .inl ((w.length:Int),w.sum) else .inr r):=by
 have all:∀(zs:List Int) (i:Nat),w.drop i=zs->i<=w.length->(∀x∈w.take i,0<=x∧x<=1000000)->lpO B ((i:Int),(w.take i).sum)=some (if zs.all dj=true then .inl ((w.length:Int),w.sum) else .inr r):=by
  intro zs
  induction zs with
  | nil =>
   intro i e hi _;have:i=w.length:=by have:=congrArg List.length e;simp at this;omega
   subst this;rw[zF (hn _)];simp
  | cons x zs ih =>
   intro i e hi hb;have hx:w[i]? = some x:=(by have:=congrArg (fun l=>l[0]?) e;simpa using this);have pO:i<w.length:=(Ac.1 hx).1;have hs:=step i x (w.take i).sum hx;by_cases hv:dj x=true
   ·rw[if_pos hv] at hs;have kU:=j9.1 hv;obtain⟨b1,b2⟩:=zfJ hb;have hl:((w.take i).length:Int)<=60:=by
     have:(w.take i).length<=w.length:=by simp;omega
     omega
    have ua:(w.take i).sum<=60000000:=Dh b2 (by omega);rw[qh hs,zR (n:=(i:Int)+1) (by omega) (by omega),zR (by omega) (by omega),←zkT w i x hx];have:=ih (i+1) (by rw[←List.drop_drop,e];simp) (by omega) (fun y hy=>by
     rw[BL,hx] at hy;rcases Aj.1 hy with hy|hy
     ·exact hb y hy
     ·simp at hy;subst hy;exact kU)
    rw[show ((i:Int)+1)=((i+1:Nat):Int) by omega,this];simp[Bg,hv]
   ·rw[if_neg hv] at hs;rw[jo hs];simp[Bg,hv]
 have:=all w 0 rfl (by omega) (by simp);simpa using this
def zfz (n:Int) (w:List Int) (i:Int):Int:=n*w.getD i.toNat 0%w.sum
def flo (n:Int) (w:List Int):List Int:=w.map fun x=>n*x/w.sum
def idx (m:Nat):List Int:=(List.range m).map fun (i:Nat)=>(i:Int)
def idx_up (m:Nat):(idx m).Pairwise (· < ·):=by unfold idx;rw[CA];exact Df.imp fun h=>by omega
def zcE (m:Nat):(idx m).length=m:=by simp[idx]
def nV {m:Nat} {x:Int}:x∈idx m↔0<=x∧x<m:=by
 unfold idx;simp only[Al,AR];constructor
 ·rintro⟨i,h,rfl⟩;omega
 ·intro h;exact⟨x.toNat,by omega,by omega⟩
def zkw (out:List Int) (i:Int):List Int:=out.set i.toNat (out.getD i.toNat 0+1)
def yV (out is:List Int):List Int:=is.foldl zkw out
def zlK (out:List Int) (i:Int):(zkw out i).length=out.length:=by simp[zkw]
def zcc:∀(is out:List Int),(yV out is).length=out.length
 | [],_=>rfl
 | i::is,out=>by show (yV (zkw out i) is).length=_;rw[zcc is,zlK]
def zmI (out is:List Int) (i:Int):yV out (is++[i])=zkw (yV out is) i:=by simp[yV]
def zaj (n:Int) (w:List Int):Int:=n-(flo n w).sum
def map_sum {n:Int} (f g:Int->Int) (c:Int):∀l:List Int,(∀x∈l,f x*c+g x=n*x)->(l.map f).sum*c+(l.map g).sum=n*l.sum
 | [],_=>by simp
 | a::l,h=>by
  have h1:=h a (by simp);have h2:=map_sum f g c l fun x hx=>h x (by simp[hx]);simp only[Aw,B6,C5,Int.mul_add];omega
def left_eq (n:Int) (w:List Int):zaj n w*w.sum=(w.map fun x=>n*x%w.sum).sum:=by
 have h:=map_sum (n:=n) (fun x=>n*x/w.sum) (fun x=>n*x%w.sum) w.sum w (fun x _=>by
  have:=Dm (n*x) w.sum;rw[Int.mul_comm];exact this)
 unfold zaj flo;rw[Int.sub_mul];omega
section
variable {n:Int} {w:List Int}
def LikeOk.spos (h:LikeOk n w):0<w.sum∧w.sum<=60000000:=by have h1:=zfJ h.wv;have:=h.s0;have:=h.l1;omega
def LikeOk.prod (h:LikeOk n w) {x:Int} (hx:x∈w):0<=n*x∧n*x<=1000000000000:=by obtain⟨a,b⟩:=h.n0;obtain⟨c,d⟩:=h.wv x hx;refine⟨Int.mul_nonneg a c, ?_⟩;have:=Int.mul_le_mul b d c (by omega);simpa using this
def LikeOk.left (h:LikeOk n w):0<=zaj n w∧zaj n w<=w.length:=by obtain⟨s1,s2⟩:=h.spos;have e:=left_eq n w;have hb:∀x∈(w.map fun x=>n*x%w.sum),0<=x∧x<=w.sum:=fun y hy=>(by obtain⟨x,hx,rfl⟩:=Al.1 hy;exact⟨CO _ (by omega),Int.le_of_lt (CY _ s1)⟩);obtain⟨b1,b2⟩:=zfJ hb;rw[Aq] at b2;rw[←e] at b1 b2;exact⟨Int.nonneg_of_mul_nonneg_left b1 s1,Int.le_of_mul_le_mul_right b2 s1⟩
def flo_get {i:Nat} {x:Int} (h:w[i]? = some x):(flo n w)[i]? = some (n*x/w.sum):=by simp[flo,h]
def LikeOk.flo_in (h:LikeOk n w):∀y∈flo n w,0<=y∧y<=1000000000000:=fun y hy=>by
 obtain⟨x,hx,rfl⟩:=Al.1 hy;obtain⟨p1,p2⟩:=h.prod hx;obtain⟨s1,s2⟩:=h.spos;exact⟨CP p1 (by omega),Dh (Int.ediv_le_self _ p1) p2⟩
def LikeOk.cut (h:LikeOk n w) (i:Nat):0<=((flo n w).take i).sum∧((flo n w).take i).sum<=60000000000000:=by
 have:=zfJ (l:=(flo n w).take i) (M:=1000000000000) fun y hy=>h.flo_in y (BT hy);have h1:(((flo n w).take i).length:Int)<=60:=by
  have:=h.l1;have:((flo n w).take i).length<=60:=by simp[flo];omega
  omega
 refine⟨this.1,Dh this.2 (by omega)⟩
def LikeOk.cmp (h:LikeOk n w):zhX zck (n,w,w.sum) (zfz n w) (fun x=>0<=x∧x<w.length):=by
 rintro x y ⟨x0,x1⟩ ⟨y0,y1⟩;obtain⟨s1,s2⟩:=h.spos;have gx:zu w x=some w[x.toNat]:=zbZ x0 x1;have gy:zu w y=some w[y.toNat]:=zbZ y0 y1;have px:=h.prod (Ay (l:=w) (n:=x.toNat) (by omega));have py:=h.prod (Ay (l:=w) (n:=y.toNat) (by omega));have dx:w.getD x.toNat 0=w[x.toNat]'(by omega):=by simp[List.getD,show x.toNat<w.length by omega]
 have dy:w.getD y.toNat 0=w[y.toNat]'(by omega):=by simp[List.getD,show y.toNat<w.length by omega]
 unfold zck S394;simp only[gx,gy,zj,show ¬w.sum=0 by omega,not_false_eq_true,decide_true,jZ,P81_eq];rw[zR (by omega) (by omega),zR (by omega) (by omega),CX px.1,CX py.1];refine⟨_,rfl, ?_⟩;unfold zfz;rw[dx,dy];split
 ·rename_i g;exact⟨fun _=>g,fun _=>by omega⟩
 ·rename_i g;split
  ·exact⟨fun q=>by omega,fun q=>absurd q g⟩
  ·exact⟨fun q=>by omega,fun q=>absurd q g⟩
def P386_ok (h:LikeOk n w):∃Z,Srt (zfz n w) Z (idx w.length)∧P386 n w=some (yV (flo n w) (Z.take (zaj n w).toNat),.nil):=by
 obtain⟨s1,s2⟩:=h.spos;have l0:=h.l0;have l1:=h.l1;have n0:=h.n0;obtain⟨Z,z1,z2⟩:=P393_eq h.cmp (idx w.length) (by rw[zcE];exact l1) (fun x hx=>nV.1 hx) (idx_up _);refine⟨Z,z2, ?_⟩;have zl:Z.length=w.length:=by rw[z2.2.1,zcE]
 unfold P386 S386;simp only[zfp,j9.2 n0,zj,AW,za,show ¬((w.length:Int)=0) by omega,decide_false,za,show ¬((60:Int)<(w.length:Int)) by omega,zx,zY,zW]
 have w1:=zkK (B:=zbB P392 w) w (([]:List Int),Err.no 1) l1 (fun i x s hx=>by
   have hi:(i:Int)<(w.length:Int):=by have:=(Ac.1 hx).1;omega
   simp only[zbB,hi,decide_true,ze,zg,hx,zj,zfp];cases dj x<;>simp) (fun s=>by simp[zbB])
 rw[w1,if_pos (Af.2 fun x hx=>j9.2 (h.wv x hx)),zY];simp only[show ¬(w.sum=0) by omega,decide_false,za];have w2:=zP (B:=zcV n w ((w.length:Int),w.sum)) (fun i=>(((flo n w).take i),idx i,n-((flo n w).take i).sum,(i:Int))) w.length (fun i hi=>by
  obtain⟨x,hx⟩:∃x,w[i]? = some x:=⟨_,Aa hi⟩;obtain⟨p1,p2⟩:=h.prod (Ae hx);have q1:=CP p1 (show 0<=w.sum by omega);have q2:=Int.ediv_le_self w.sum p1;have fg:=flo_get (n:=n) hx;have ft:(flo n w).take (i+1)=(flo n w).take i++[n*x/w.sum]:=by rw[BL,fg];rfl
  have ftl:((flo n w).take i).length=i:=by simp[flo];omega
  have cut:=h.cut i;have cut2:=h.cut (i+1);have st:((flo n w).take (i+1)).sum=((flo n w).take i).sum+n*x/w.sum:=by rw[ft];simp
  simp only[zcV,show (i:Int)<(w.length:Int) by omega,decide_true,ze,zg,hx,zj,show ¬(w.sum=0) by omega,not_false_eq_true,jZ];rw[zR (n:=n*x) (by omega) (by omega),Int.tdiv_eq_ediv_of_nonneg p1,zR (n:=n*x/w.sum) (by omega) (by omega),←ft];rw[zm (by simp[ftl,zC];omega),zm (by simp[zcE,zC];omega)];have fl2:((flo n w).take (i+1)).length=i+1:=by simp[flo];omega
  rw[zm (by rw[fl2];omega),Ap,show ((flo n w).take (i+1))[i]? = some (n*x/w.sum) by rw[A8 (by omega),fg],zj,ji,zR (by omega) (by omega),zR (by omega) (by omega)];rw[st,show idx i++[(i:Int)]=idx (i+1) by simp[idx,Cb]];rw[show n-((flo n w).take i).sum-n*x/w.sum=n-(((flo n w).take i).sum+n*x/w.sum) by omega]
  rfl)
 have w3:=zF (B:=zcV n w ((w.length:Int),w.sum)) (x:=(((flo n w).take w.length),idx w.length,n-((flo n w).take w.length).sum,(w.length:Int))) (y:=(((flo n w).take w.length),idx w.length,n-((flo n w).take w.length).sum,(w.length:Int))) (by simp[zcV]);have ff:(flo n w).take w.length=flo n w:=Bx (by simp[flo]);have w4:lpO (zcV n w ((w.length:Int),w.sum)) (([]:List Int),([]:List Int),n,(0:Int))=some (.inl (flo n w,idx w.length,zaj n w,(w.length:Int))):=(by have:=w2.trans w3;rw[ff] at this;simpa[idx,zaj] using this);rw[w4,zY];obtain⟨t1,t2⟩:=h.left;obtain⟨t,ht⟩:∃t:Nat,zaj n w=t:=⟨(zaj n w).toNat,by omega⟩;simp only[z1,zj];rw[zm (by rw[zl,zcE]),zm (by rw[zl];omega),ht];have w5:=zP (B:=zhH (flo n w,idx w.length,(t:Int),(w.length:Int)) Z) (fun i=>((i:Int),yV (flo n w) (Z.take i))) t (fun i hi=>by
  obtain⟨x,hx⟩:∃x,Z[i]? = some x:=⟨_,Aa (by omega)⟩;have fv:=nV.1 ((z2.2.2 x).1 (Ae hx));have bl:(yV (flo n w) (Z.take i)).length=w.length:=by rw[zcc];simp[flo]
  have bg:(yV (flo n w) (Z.take i))[x.toNat]? = some ((yV (flo n w) (Z.take i)).getD x.toNat 0):=by simp[List.getD,show x.toNat<(yV (flo n w) (Z.take i)).length by omega]
  have bnd:∀(is out:List Int) (M:Int),(∀y∈out,0<=y∧y<=M)->∀y∈yV out is,0<=y∧y<=M+is.length:=by
   intro is
   induction is with
   | nil=>intro out M hM y hy;have:=hM y hy;simp;omega
   | cons j is ih =>
    intro out M hM y hy;have:=ih (zkw out j) (M+1) (fun z hz=>by
     rcases C1 hz with hz|rfl
     ·have:=hM z hz;omega
     ·by_cases hj:j.toNat<out.length
      ·have hv:0<=out.getD j.toNat 0∧out.getD j.toNat 0<=M:=hM _ (by simp[List.getD,hj]);change 0<=out.getD j.toNat 0+1∧out.getD j.toNat 0+1<=M+1;omega
      ·simp[zkw,List.set_eq_of_length_le (show out.length<=j.toNat by omega)] at hz;have:=hM (out.getD j.toNat 0+1) (by simpa[List.getD] using hz);change 0<=out.getD j.toNat 0+1∧out.getD j.toNat 0+1<=M+1
       omega) y hy
    simp only[Ax,CN,Dk];omega
  have hb:=bnd (Z.take i) (flo n w) 1000000000000 (h.flo_in) _ (Ae bg);have hti:((Z.take i).length:Int)<=60:=by
   have:(Z.take i).length<=60:=by simp;omega
   omega
  simp only[zhH,Ap,Int.toNat_zero,Dd,show (i:Int)<(t:Int) by omega,decide_true,ze,AY];rw[zm (by constructor<;>first|omega|trivial),hx,zj,zm (by rw[bl];omega),bg,zj,zm (by rw[bl];omega)]
  simp only[zj,ji];rw[zR (by omega) (by omega),zR (by omega) (by omega),BL,hx];rw[show (Option.toList (some x))=[x] from rfl,zmI]
  rfl)
 have w6:=w5.trans (zF (y:=((t:Int),yV (flo n w) (Z.take t))) (by simp[zhH]));rw[show ((0:Int),flo n w)=(((0:Nat):Int),yV (flo n w) (Z.take 0)) by simp[yV],w6,zY];simp
end
end
section
section
variable {n:Int} {w:List Int}
def P386_err (h:gm n w≠0):P386 n w=some ([],zn (gm n w)):=by
 unfold P386 S386;unfold gm at h ⊢;simp only[zfp,zj];by_cases hn:dj n=true
 case neg=>rw[if_neg hn];simp[hn,zn]
 rw[if_pos hn] at h ⊢;simp only[hn,AW,za];by_cases hl:w.length=0∨60<w.length
 ·rw[if_pos hl];rcases hl with hl|hl
  ·simp[hl,zn]
  ·simp[show (60:Int)<(w.length:Int) by omega,show ¬((w.length:Int)=0) by omega,zn]
 ·rw[if_neg hl] at h ⊢;simp only[show ¬((w.length:Int)=0) by omega,decide_false,za,show ¬((60:Int)<(w.length:Int)) by omega,zx,zY,zW];have w1:=zkK (B:=zbB P392 w) w (([]:List Int),Err.no 1) (by omega) (fun i x s hx=>by
   have hi:(i:Int)<(w.length:Int):=by have:=(Ac.1 hx).1;omega
   simp only[zbB,hi,decide_true,ze,zg,hx,zj,zfp];cases dj x<;>simp) (fun s=>by simp[zbB])
  rw[w1];by_cases hv:w.all dj=true
  ·rw[if_pos hv] at h;rw[if_pos hv,if_pos hv,zY];by_cases hs:w.sum=0
   ·simp[hs,zn]
   ·rw[if_neg hs] at h;exact absurd rfl h
  ·rw[if_neg hv,if_neg hv,jn_r];simp[zn]
end
end
section
def yT (n:Int) (m:Nat):List Int:=(List.range m).map fun (i:Nat)=>n/(m:Int)+if (i:Int)<n%(m:Int) then 1 else 0
def wW (n:Int) (m:Nat):(yT n m).length=m:=by simp[yT]
def ziY {n:Int} {m i:Nat} (h:i<m):(yT n m)[i]? = some (n/(m:Int)+if (i:Int)<n%(m:Int) then 1 else 0):=by simp[yT,h]
def zdu (n p:Int):List Int×Int:=if dj n=true∧1<=p∧p<=60 then (yT n p.toNat,0) else ([],1)
def even_num {n:Int} {m:Nat} (hn:dj n=true) (hm:1<=m∧m<=60):Int.tdiv n m=n/m∧Int.tmod n m=n%m∧0<=n/(m:Int)∧n/(m:Int)<=1000000:=by have e8:=j9.1 hn;refine⟨Int.tdiv_eq_ediv_of_nonneg e8.1,CX e8.1,CP e8.1 (by omega),Dh (Int.ediv_le_self _ e8.1) e8.2⟩
def P384_eq (n p:Int):P384 n p=some ((zdu n p).1,zn (zdu n p).2):=by
 unfold P384 S384 zdu;simp only[zfp,zj];by_cases hn:dj n=true
 case neg=>simp[hn,zn]
 by_cases h1:p<1
 ·simp[hn,h1,show ¬(1<=p∧p<=60) by omega,zn]
 by_cases h2:60<p
 ·simp[hn,h1,h2,show ¬(1<=p∧p<=60) by omega,zn]
 obtain⟨m,rfl⟩:∃m:Nat,p=m:=⟨p.toNat,by omega⟩;have hm:1<=m∧m<=60:=by omega
 rw[if_pos ⟨hn,by omega,by omega⟩];obtain⟨e1,e2,e3,e4⟩:=even_num hn hm;simp only[hn,AW,za,h1,decide_false,h2,zx,zY,Ap,zW];rw[zm (by unfold zC;omega)];have hs:=zP (B:=zhI n (m:Int)) (fun i=>((i:Int),(yT n m).take i++List.replicate (m-i) 0)) m (fun i hi=>by
  have lP:((yT n m).take i).length=i:=by simp[wW];omega
  have rep:List.replicate (m-i) (0:Int)=0::List.replicate (m-(i+1)) 0:=by rw[show m-i=m-(i+1)+1 by omega];rfl
  have g0:∀v,((yT n m).take i++v::List.replicate (m-(i+1)) (0:Int))[i]? = some v:=fun v=>by rw[AM (by omega),lP];simp
  have st:∀u v:Int,((yT n m).take i++u::List.replicate (m-(i+1)) (0:Int)).set i v=(yT n m).take i++v::List.replicate (m-(i+1)) 0:=fun u v=>(by have:=zjL ((yT n m).take i) (List.replicate (m-(i+1)) 0) v u i lP.symm;exact this);have ln:∀v:Int,((yT n m).take i++v::List.replicate (m-(i+1)) (0:Int)).length=m:=fun v=>by simp[wW];omega
  have fin:∀v,(yT n m)[i]? = some v->(yT n m).take i++v::List.replicate (m-(i+1)) 0=(yT n m).take (i+1)++List.replicate (m-(i+1)) 0:=fun v hv=>by rw[BL,hv];simp
  have wI:wi ((i:Int)+1)=((i+1:Nat):Int):=by rw[zR (by omega) (by omega)];omega
  simp only[zhI,BV,Ap,show (i:Int)<(m:Int) by omega,decide_true,ze,show ¬((m:Int)=0) by omega,not_false_eq_true,jZ];rw[rep,zm (by rw[ln];omega),g0,zj,e1,e2,zR (n:=n/(m:Int)) (by omega) (by omega)];simp only[st,g0,zj];have gi:=ziY (n:=n) hi;by_cases hc:(i:Int)<n%(m:Int)
  ·rw[if_pos hc] at gi;rw[decide_eq_true hc,ze,zm (by rw[ln];omega),zm (by rw[ln];omega),zx,zY,wI,zR (n:=n/(m:Int)+1) (by omega) (by omega),fin _ gi];rfl
  ·rw[if_neg hc,Int.add_zero] at gi;rw[decide_eq_false hc,za,zx,zY,wI,fin _ gi]
   rfl)
 have h0:=hs.trans (zF (y:=((m:Int),(yT n m).take m++List.replicate (m-m) 0)) (by simp[zhI]));have hf:(yT n m).take m++List.replicate (m-m) 0=yT n m:=by rw[Bx (by rw[wW];exact Az _)];simp
 rw[hf] at h0;rw[show ((0:Int),List.replicate m (0:Int))=(((0:Nat):Int),(yT n m).take 0++List.replicate (m-0) 0) by simp,h0,zY];rfl
open Classical in
def ordL (n:Int) (w:List Int):List Int:=if h:∃Z,Srt (zfz n w) Z (idx w.length) then choose h else []
def zdp (n:Int) (w:List Int):List Int×Int:=if gm n w=0 then (yV (flo n w) ((ordL n w).take (zaj n w).toNat),0) else ([],gm n w)
def ordL_ok {n:Int} {w:List Int} (h:LikeOk n w):Srt (zfz n w) (ordL n w) (idx w.length):=by obtain⟨Z,z,_⟩:=P386_ok h;have hz:∃Z,Srt (zfz n w) Z (idx w.length):=⟨Z,z⟩;unfold ordL;rw[dif_pos hz];exact Dn hz
def P386_eq (n:Int) (w:List Int):P386 n w=some ((zdp n w).1,zn (zdp n w).2):=by
 unfold zdp;by_cases h:gm n w=0
 ·rw[if_pos h];obtain⟨Z,z1,z2⟩:=P386_ok (zcy.1 h);have o:=ordL_ok (zcy.1 h);have e:Z=ordL n w:=ord_ext z1.1 o.1 fun x=>by rw[z1.2.2,o.2.2]
  rw[z2,e];rfl
 ·rw[if_neg h,P386_err h]
def zew {o:List Dim} {p q:List Int} (ok:OutOk o) (hf:Fit o p) (hq:q∈zo o p):Fit o q∧jX o q=true∧(pwL (wZ o p q)).isSome=true:=by rw[←zaX ok hf] at hq;obtain⟨h1,h2⟩:=BH.1 hq;obtain⟨n,_,rfl⟩:=Al.1 h1;simp only[zcB,Ai] at h2;exact⟨zhh ok n,h2.1,h2.2⟩
def leaf_len {o:List Dim} {p:List Int} (ok:OutOk o) (hf:Fit o p):(zo o p).length<=1000000:=by rw[←zaX ok hf];obtain⟨aF,hle⟩:=ok.sizeN;refine AD (BR _ _) ?_;simp;omega
def zch (l:List Entry) (q:List Int):Int:=(zkq (bB l q)).n
def zO (o:List Dim) (l:List Entry) (p:List Int) (n:Int):List Edit×Int :=
 if jj o l=0 then
  if jv o p=0 then
   if (zo o p).length=0∨(zo o p).any (fun q => !decide ((pwR (wZ o p q)).1=1))=true then ([],3)
   else if 60<(zo o p).length then ([],4)
   else
    let was:=(zo o p).map (zch l)
    let r:=if was.any (fun k=>decide (0<k))=true∧was.any (fun k=>decide (k<0))=false then zdp n was else zdu n (zo o p).length
    if r.2=0 then ((zo o p).zipWith (fun q k=>⟨q,k,false⟩) r.1,0) else ([],r.2)
  else ([],jv o p)
 else ([],jj o l)
def yG (L:List (List Int)) (r:List Int):List Edit:=L.zipWith (fun q k=>⟨q,k,false⟩) r
def zmA {L:List (List Int)} {r:List Int} {i:Nat} {q:List Int} {k:Int} (h1:L[i]? = some q) (h2:r[i]? = some k):(yG L r).take i++[⟨q,k,false⟩]=(yG L r).take (i+1):=by
 have e:(yG L r)[i]? = some ⟨q,k,false⟩:=by unfold yG;rw[List.getElem?_zipWith,h1,h2]
 rw[BL,e];rfl
def likeR_len {n:Int} {w:List Int} (h:(zdp n w).2=0):(zdp n w).1.length=w.length:=by
 unfold zdp at h ⊢;split
 ·rw[zcc];simp[flo]
 ·rename_i c;rw[if_neg c] at h;exact absurd h c
def evenR_len {n:Int} {m:Nat} (h:(zdu n m).2=0):(zdu n m).1.length=m:=by
 unfold zdu at h ⊢;split
 ·simp[wW]
 ·rename_i c;rw[if_neg c] at h;cases h
section
variable {o:List Dim} {l:List Entry} {p:List Int} {n:Int}
def was_loop {α:Type} {B:(Bool×Bool×List Int×Int)->Option (LR (Bool×Bool×List Int×Int) α)} (L:List (List Int)) (f:List Int->Int) (bad:List Int->Bool) (r:α) (hL:L.length<=1000000)
  (step:∀(i:Nat) (q:List Int) (a b:Bool) (w:List Int),L[i]? = some q->w.length<=1000000->B (a,b,w,(i:Int))=some (if bad q=true then .fin r else .nx (a || decide (0<f q),b || decide (f q<0),w++[f q],(i:Int)+1)))
  (hn:∀a b w,B (a,b,w,(L.length:Int))=some (.dn (a,b,w,(L.length:Int)))) :
  lpO B (false,false,[],0)=some (if L.any bad=true then .inr r else .inl ((L.map f).any (fun k=>decide (0<k)),(L.map f).any (fun k=>decide (k<0)),L.map f,(L.length:Int))):=by
 have all:∀(zs:List (List Int)) (i:Nat),L.drop i=zs->i<=L.length->lpO B ((((L.take i).map f).any fun k=>decide (0<k)),(((L.take i).map f).any fun k=>decide (k<0)),(L.take i).map f,(i:Int))=some (if zs.any bad=true then .inr r else .inl ((L.map f).any (fun k=>decide (0<k)),(L.map f).any (fun k=>decide (k<0)),L.map f,(L.length:Int))):=by
  intro zs
  induction zs with
  | nil =>
   intro i e hi;have:i=L.length:=by have:=congrArg List.length e;simp at this;omega
   subst this;rw[zF (hn _ _ _)];simp
  | cons q zs ih =>
   intro i e hi;have hx:L[i]? = some q:=(by have:=congrArg (fun l=>l[0]?) e;simpa using this);have pO:i<L.length:=(Ac.1 hx).1;have hs:=step i q (((L.take i).map f).any fun k=>decide (0<k)) (((L.take i).map f).any fun k=>decide (k<0)) ((L.take i).map f) hx (by simp;omega);cases hv:bad q with
   | true =>rw[if_pos hv] at hs;rw[jo hs];simp[hv]
   | false =>rw[if_neg (by simp[hv])] at hs;have:=ih (i+1) (by rw[←List.drop_drop,e];simp) (by omega);rw[BL,hx] at this;simp only[Option.toList,Bc,Aw,Bn,List.any_append,Cf,List.any_nil,Bool.or_false,CN,Dk] at this;rw[qh hs];rw[this];simp[hv]
 have:=all L 0 rfl (by omega);simpa using this
def P382_eq (hl:Lst Entry.gd l) (hp:p.length<=9223372036854775807):P382 o l p n=some ((zO o l p n).1,zn (zO o l p n).2):=by
 unfold P382 S382;simp only[zbD hl,zj,zB,P127_eq o p hp];unfold zO;by_cases hc:jj o l=0
 case neg=>rw[if_neg hc];simp[hc]
 rw[if_pos hc];have aK:EntsOk o l:=zaG.1 (by unfold jj at hc;split at hc<;>first|exact hc|(rename_i g;exact absurd hc g))
 have he:jm o p=jv o p:=by unfold jm;rw[if_pos (zbf.2 aK.out)]
 by_cases hf:jv o p=0
 case neg =>
  rw[if_neg hf];simp[hc,he,hf,zn]
 have fit:=jB.1 hf;have nG:jm o p=0:=by rw[he];exact hf
 have mi:=leaf_len aK.out fit;rw[if_pos hf,if_pos nG];simp only[hc,decide_true,AW,za,yC];by_cases h0:(zo o p).length=0
 ·simp[h0,zn]
 simp only[show ¬(((zo o p).length:Int)=0) by omega,decide_false,za,zW,h0,false_or];have wl:=was_loop (B:=zhK P111 P57 o l p (zo o p,Err.nil)) (zo o p) (zch l) (fun q => !decide ((pwR (wZ o p q)).1=1)) (([]:List Edit),Err.no 3) mi (fun i q a b w hq hw=>by
  have hi:=(Ac.1 hq).1;obtain⟨f1,f2,f3⟩:=zew aK.out fit (Ae hq);have nE:q.length<=9223372036854775807:=by rw[f1.len,←fit.len];exact hp
  have hqe:jm o q=0:=zdF.2 ⟨aK.out,f1⟩;simp only[zhK,show (i:Int)<((zo o p).length:Int) by omega,decide_true,ze,zg,hq,zj,P111_eq o p q hp nE,if_pos nG,if_pos hqe,f2,f3,Db,if_true,yC,AW,za];by_cases iF:(pwR (wZ o p q)).1=1
  ·simp only[iF,not_true,decide_false,za,decide_true,AW,if_false,P57_eq (mU aK.rise) hl nE,zj];have bd:w.length+1<=zC:=by unfold zC;omega
   have hwi:wi ((i:Int)+1)=(i:Int)+1:=zR (by omega) (by omega);cases a<;>cases b<;>simp[zch,bd,hwi]<;>first|rfl|exact⟨rfl,rfl⟩|congr|exact⟨by congr,by congr⟩
  ·simp[iF]) (fun a b w=>by simp[zhK])
 rw[wl];by_cases fi:(zo o p).any (fun q => !decide ((pwR (wZ o p q)).1=1))=true
 ·rw[if_pos fi,if_pos fi,jn_r];simp[zn]
 rw[if_neg fi,if_neg fi,zY];by_cases iv:60<(zo o p).length
 ·simp[iv,show (60:Int)<((zo o p).length:Int) by omega,zn]
 rw[if_neg iv];simp only[show ¬(60:Int)<((zo o p).length:Int) by omega,decide_false,za,P384_eq,zj];generalize tt:((zo o p).map (zch l)).any (fun k=>decide (0<k))=sm;generalize tJ:((zo o p).map (zch l)).any (fun k=>decide (k<0))=ls;generalize hr:(if sm=true∧ls=false then zdp n ((zo o p).map (zch l)) else zdu n (zo o p).length)=r
 have tv:r.2=0->r.1.length=(zo o p).length:=by
  intro h;subst hr;by_cases tU:sm=true∧ls=false
  ·rw[if_pos tU] at h ⊢;rw[likeR_len h,Aq]
  ·rw[if_neg tU] at h ⊢;exact evenR_len h
 have l7:∀ {α:Type} (K:Err×List Int->Option α),(jn (σ:=Bool) (α:=α) (br sm (zt (some (!ls))) (zt (some false))) fun bn =>
   jn (σ:=Err×List Int) (α:=α) (br bn (bno (P386 n ((zo o p).map (zch l))) fun cA=>zt (some (cA.2,cA.1))) (zt (some (zn (zdu n (zo o p).length).2,(zdu n (zo o p).length).1)))) K)=K (zn r.2,r.1):=by
  intro α K;subst hr;cases sm<;>cases ls<;>simp[P386_eq]
 rw[l7];simp only[zB];by_cases hz:r.2=0
 case neg=>simp[hz]
 have tv:=tv hz;simp only[hz,decide_true,AW,za,if_true,zW];have hs:=zP (B:=zhJ (zo o p,Err.nil) (zn 0,r.1)) (fun i=>((yG (zo o p) r.1).take i,(i:Int))) (zo o p).length (fun i hi=>by
  have g1:=Aa hi;have g2:=Aa (show i<r.1.length by omega);simp only[zhJ,show (i:Int)<((zo o p).length:Int) by omega,decide_true,ze,zg,g1,g2,zj];rw[zm (by simp[zie];omega),zmA g1 g2,zR (by omega) (by omega)]
  rfl)
 have h0:=hs.trans (zF (y:=((yG (zo o p) r.1).take (zo o p).length,((zo o p).length:Int))) (by simp[zhJ]));rw[show (([]:List Edit),(0:Int))=((yG (zo o p) r.1).take 0,((0:Nat):Int)) by simp,h0,zY];rw[Bx (by simp[yG];omega)];rfl
end
end
end Ab
