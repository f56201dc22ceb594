import Derived.Test.YtkaifdgeigdbhaaGreatDoorS1
import Derived.Test.YtkaifdgeigdbhaaGreatDoorMSe
import Derived.Test.YtkaifdgeigdbhaaGreatDoorQCb
import Derived.Test.YtkaifdgeigdbhaaGreatDoorHK
set_option linter.all false
noncomputable section
namespace Ab
open Go
section
def zgD (n:Int):Bool:=decide (0<=n∧n<=1000000)
def ju {n:Int}:zgD n=true↔0<=n∧n<=1000000:=by simp[zgD]
def zey (n:Int):P392 n=some (zgD n):=by
 unfold P392 S392 zgD;by_cases h:0<=n
 ·simp[h]
 ·simp[h]
def zeI (n:Int) (w:List Int):Int:=if zgD n=true then (if w.length=0∨60 < w.length then 4 else if w.all zgD=true then (if w.sum=0 then 3 else 0) else 1) else 1
structure LikeOk (n:Int) (w:List Int):Prop where
 n0:0<=n∧n<=1000000
 l0:0 < w.length
 l1:w.length<=60
 wv:∀ x∈w,0<=x∧x<=1000000
 s0:w.sum≠0
def zaX {n:Int} {w:List Int}:zeI n w=0↔LikeOk n w:=by
 unfold zeI;constructor
 ·intro h;split at h
  ·rename_i h1;split at h
   ·cases h
   ·rename_i h2;split at h
    ·rename_i h3;split at h
     ·cases h
     ·rename_i h4;exact ⟨ju.1 h1,by omega,by omega,fun x hx=>ju.1 (Af.1 h3 x hx),h4⟩
    ·cases h
  ·cases h
 ·intro h;have:=h.l0;have:=h.l1;rw[if_pos (ju.2 h.n0),if_neg (by omega),if_pos (Af.2 fun x hx=>ju.2 (h.wv x hx)),if_neg h.s0]
def zcl {l:List Int} {M:Int} (h:∀ x∈l,0<=x∧x<=M):0<=l.sum∧l.sum<=l.length * M:=by
 induction l with
 | nil=>simp
 | cons a l ih =>obtain ⟨h1,h2⟩:=ih fun x hx=>h x (by simp[hx]);have:=h a (by simp);simp only[B4,As,Cx,C7,CZ,CO];omega
def wB (w:List Int) (i:Nat) (x:Int) (h:w[i]? = some x):(w.take (i+1)).sum=(w.take i).sum+x:=by rw[BF,h];simp
def ziR {α:Type} {B:Int×Int->Option (LR (Int×Int) α)} (w:List Int) (r:α) (hlen:w.length<=60)
  (step:∀ (i:Nat) (x s:Int),w[i]? = some x->B ((i:Int),s)=some (if zgD x=true then .nx (wi ((i:Int)+1),wi (s+x)) else .fin r))
  (hn:∀ s,B ((w.length:Int),s)=some (.dn ((w.length:Int),s))) :
  lpO B (0,0)=some (if w.all zgD=true then .inl ((w.length:Int),w.sum) else .inr r):=by
 have all:∀ (zs:List Int) (i:Nat),w.drop i=zs->i<=w.length->(∀ x∈w.take i,0<=x∧x<=1000000)->lpO B ((i:Int),(w.take i).sum)=some (if zs.all zgD=true then .inl ((w.length:Int),w.sum) else .inr r):=by
  intro zs
  induction zs with
  | nil =>
   intro i e hi _;have:i=w.length:=by have:=congrArg List.length e;simp at this;omega
   subst this;rw[zE (hn _)];simp
  | cons x zs ih =>
   intro i e hi hb;have hx:w[i]? = some x:=(by have:=congrArg (fun l=>l[0]?) e;simpa using this);have nR:i < w.length:=(Ac.1 hx).1;have hs:=step i x (w.take i).sum hx;by_cases hv:zgD x=true
   ·rw[if_pos hv] at hs;have iD:=ju.1 hv;obtain ⟨b1,b2⟩:=zcl hb;have hl:((w.take i).length:Int)<=60:=by
     have:(w.take i).length<=w.length:=by simp;omega
     omega
    have rz:(w.take i).sum<=60000000:=CX b2 (by omega);rw[z8 hs,zN (n:=(i:Int)+1) (by omega) (by omega),zN (by omega) (by omega),← wB w i x hx];have:=ih (i+1) (by rw[← List.drop_drop,e];simp) (by omega) (fun y hy=>by
     rw[BF,hx] at hy;rcases Aj.1 hy with hy | hy
     ·exact hb y hy
     ·simp at hy;subst hy;exact iD)
    rw[show ((i:Int)+1)=((i+1:Nat):Int) by omega,this];simp[A8,hv]
   ·rw[if_neg hv] at hs;rw[jd hs];simp[A8,hv]
 have:=all w 0 rfl (by omega) (by simp);simpa using this
def zeJ (n:Int) (w:List Int) (i:Int):Int:=n * w.getD i.toNat 0 % w.sum
def flo (n:Int) (w:List Int):List Int:=w.map fun x=>n * x / w.sum
def idx (m:Nat):List Int:=(List.range m).map fun (i:Nat)=>(i:Int)
def idx_up (m:Nat):(idx m).Pairwise (· < ·):=by unfold idx;rw[Dh];exact List.pairwise_lt_range.imp fun h=>by omega
def ir (m:Nat):(idx m).length=m:=by simp[idx]
def zij {m:Nat} {x:Int}:x∈idx m↔0<=x∧x < m:=by
 unfold idx;simp only[Al,A9];constructor
 ·rintro ⟨i,h,rfl⟩;omega
 ·intro h;exact ⟨x.toNat,by omega,by omega⟩
def bump (out:List Int) (i:Int):List Int:=out.set i.toNat (out.getD i.toNat 0+1)
def yA (out is:List Int):List Int:=is.foldl bump out
def zjz (out:List Int) (i:Int):(bump out i).length=out.length:=by simp[bump]
def zbC:∀ (is out:List Int),(yA out is).length=out.length
 | [],_=>rfl
 | i :: is,out=>by show (yA (bump out i) is).length=_;rw[zbC is,zjz]
def zkn (out is:List Int) (i:Int):yA out (is++[i])=bump (yA out is) i:=by simp[yA]
def wM (n:Int) (w:List Int):Int:=n - (flo n w).sum
def map_sum {n:Int} (f g:Int->Int) (c:Int):∀ l:List Int,(∀ x∈l,f x * c+g x=n * x)->(l.map f).sum * c+(l.map g).sum=n * l.sum
 | [],_=>by simp
 | a :: l,h=>by
  have h1:=h a (by simp);have h2:=map_sum f g c l fun x hx=>h x (by simp[hx]);simp only[Aq,B4,C7,Int.mul_add];omega
def left_eq (n:Int) (w:List Int):wM n w * w.sum=(w.map fun x=>n * x % w.sum).sum:=by
 have h:=map_sum (n:=n) (fun x=>n * x / w.sum) (fun x=>n * x % w.sum) w.sum w (fun x _=>by
  have:=C0 (n * x) w.sum;rw[Int.mul_comm];exact this)
 unfold wM flo;rw[Int.sub_mul];omega
section
variable {n:Int} {w:List Int}
def LikeOk.spos (h:LikeOk n w):0 < w.sum∧w.sum<=60000000:=by have h1:=zcl h.wv;have:=h.s0;have:=h.l1;omega
def LikeOk.prod (h:LikeOk n w) {x:Int} (hx:x∈w):0<=n * x∧n * x<=1000000000000:=by obtain ⟨a,b⟩:=h.n0;obtain ⟨c,d⟩:=h.wv x hx;refine ⟨Int.mul_nonneg a c, ?_⟩;have:=Int.mul_le_mul b d c (by omega);simpa using this
def LikeOk.left (h:LikeOk n w):0<=wM n w∧wM n w<=w.length:=by obtain ⟨s1,s2⟩:=h.spos;have e:=left_eq n w;have hb:∀ x∈(w.map fun x=>n * x % w.sum),0<=x∧x<=w.sum:=fun y hy=>(by obtain ⟨x,hx,rfl⟩:=Al.1 hy;exact ⟨Cf _ (by omega),Int.le_of_lt (CH _ s1)⟩);obtain ⟨b1,b2⟩:=zcl hb;rw[Ap] at b2;rw[← e] at b1 b2;exact ⟨Int.nonneg_of_mul_nonneg_left b1 s1,Int.le_of_mul_le_mul_right b2 s1⟩
def flo_get {i:Nat} {x:Int} (h:w[i]? = some x):(flo n w)[i]? = some (n * x / w.sum):=by simp[flo,h]
def LikeOk.flo_in (h:LikeOk n w):∀ y∈flo n w,0<=y∧y<=1000000000000:=fun y hy=>by
 obtain ⟨x,hx,rfl⟩:=Al.1 hy;obtain ⟨p1,p2⟩:=h.prod hx;obtain ⟨s1,s2⟩:=h.spos;exact ⟨Cy p1 (by omega),CX (Int.ediv_le_self _ p1) p2⟩
def LikeOk.cut (h:LikeOk n w) (i:Nat):0<=((flo n w).take i).sum∧((flo n w).take i).sum<=60000000000000:=by
 have:=zcl (l:=(flo n w).take i) (M:=1000000000000) fun y hy=>h.flo_in y (Bg hy)
 have h1:(((flo n w).take i).length:Int)<=60:=by have:=h.l1;have:((flo n w).take i).length<=60:=by simp[flo];omega
                                                 omega
 refine ⟨this.1,CX this.2 (by omega)⟩
def LikeOk.cmp (h:LikeOk n w):zgx zbJ (n,w,w.sum) (zeJ n w) (fun x=>0<=x∧x < w.length):=by
 rintro x y ⟨x0,x1⟩ ⟨y0,y1⟩;obtain ⟨s1,s2⟩:=h.spos;have gx:zB w x=some w[x.toNat]:=lO x0 x1;have gy:zB w y=some w[y.toNat]:=lO y0 y1;have px:=h.prod (Az (l:=w) (n:=x.toNat) (by omega));have py:=h.prod (Az (l:=w) (n:=y.toNat) (by omega));have dx:w.getD x.toNat 0=w[x.toNat]'(by omega):=by simp[List.getD,show x.toNat < w.length by omega]
 have dy:w.getD y.toNat 0=w[y.toNat]'(by omega):=by simp[List.getD,show y.toNat < w.length by omega]
 unfold zbJ S394;simp only[gx,gy,zj,show ¬ w.sum=0 by omega,not_false_eq_true,decide_true,yi,P81_eq];rw[zN (by omega) (by omega),zN (by omega) (by omega),CG px.1,CG py.1];refine ⟨_,rfl, ?_⟩;unfold zeJ;rw[dx,dy];split
 ·rename_i g;exact ⟨fun _=>g,fun _=>by omega⟩
 ·rename_i g;split
  ·exact ⟨fun q=>by omega,fun q=>absurd q g⟩
  ·exact ⟨fun q=>by omega,fun q=>absurd q g⟩
def P386_ok (h:LikeOk n w):∃ Z,Srt (zeJ n w) Z (idx w.length)∧P386 n w=some (yA (flo n w) (Z.take (wM n w).toNat),.nil):=by
 obtain ⟨s1,s2⟩:=h.spos;have l0:=h.l0;have l1:=h.l1;have n0:=h.n0;obtain ⟨Z,z1,z2⟩:=P393_eq h.cmp (idx w.length) (by rw[ir];exact l1) (fun x hx=>zij.1 hx) (idx_up _);refine ⟨Z,z2, ?_⟩;have zl:Z.length=w.length:=by rw[z2.2.1,ir]
 unfold P386 S386;simp only[zey,ju.2 n0,zj,AU,za,show ¬ ((w.length:Int)=0) by omega,decide_false,za,show ¬ ((60:Int) < (w.length:Int)) by omega,zA,zV,z7]
 have w1:=ziR (B:=gl P392 w) w (([]:List Int),Err.no 1) l1 (fun i x s hx=>by
   have hi:(i:Int) < (w.length:Int):=by have:=(Ac.1 hx).1;omega
   simp only[gl,hi,decide_true,zh,zi,hx,zj,zey];cases zgD x<;>simp) (fun s=>by simp[gl])
 rw[w1,if_pos (Af.2 fun x hx=>ju.2 (h.wv x hx)),zV];simp only[show ¬ (w.sum=0) by omega,decide_false,za];have w2:=qe (B:=zcd n w ((w.length:Int),w.sum)) (fun i=>(((flo n w).take i),idx i,n - ((flo n w).take i).sum,(i:Int))) w.length (fun i hi=>by
  obtain ⟨x,hx⟩:∃ x,w[i]? = some x:=⟨_,Aa hi⟩;obtain ⟨p1,p2⟩:=h.prod (Ad hx);have q1:=Cy p1 (show 0<=w.sum by omega);have q2:=Int.ediv_le_self w.sum p1;have fg:=flo_get (n:=n) hx;have ft:(flo n w).take (i+1)=(flo n w).take i++[n * x / w.sum]:=by rw[BF,fg];rfl
  have ftl:((flo n w).take i).length=i:=by simp[flo];omega
  have cut:=h.cut i;have cut2:=h.cut (i+1);have st:((flo n w).take (i+1)).sum=((flo n w).take i).sum+n * x / w.sum:=by rw[ft];simp
  simp only[zcd,show (i:Int) < (w.length:Int) by omega,decide_true,zh,zi,hx,zj,show ¬ (w.sum=0) by omega,not_false_eq_true,yi];rw[zN (n:=n * x) (by omega) (by omega),Int.tdiv_eq_ediv_of_nonneg p1,zN (n:=n * x / w.sum) (by omega) (by omega),← ft];rw[zC (by simp[ftl,zP];omega),zC (by simp[ir,zP];omega)];have fl2:((flo n w).take (i+1)).length=i+1:=by simp[flo];omega
  rw[zC (by rw[fl2];omega),AH,show ((flo n w).take (i+1))[i]? = some (n * x / w.sum) by rw[AZ (by omega),fg],zj,j9,zN (by omega) (by omega),zN (by omega) (by omega)];rw[st,show idx i++[(i:Int)]=idx (i+1) by simp[idx,Cu]];rw[show n - ((flo n w).take i).sum - n * x / w.sum=n - (((flo n w).take i).sum+n * x / w.sum) by omega]
  rfl)
 have w3:=zE (B:=zcd n w ((w.length:Int),w.sum)) (x:=(((flo n w).take w.length),idx w.length,n - ((flo n w).take w.length).sum,(w.length:Int))) (y:=(((flo n w).take w.length),idx w.length,n - ((flo n w).take w.length).sum,(w.length:Int))) (by simp[zcd]);have ff:(flo n w).take w.length=flo n w:=Bf (by simp[flo]);have w4:lpO (zcd n w ((w.length:Int),w.sum)) (([]:List Int),([]:List Int),n,(0:Int))=some (.inl (flo n w,idx w.length,wM n w,(w.length:Int))):=(by have:=w2.trans w3;rw[ff] at this;simpa[idx,wM] using this);rw[w4,zV];obtain ⟨t1,t2⟩:=h.left;obtain ⟨t,ht⟩:∃ t:Nat,wM n w=t:=⟨(wM n w).toNat,by omega⟩;simp only[z1,zj];rw[zC (by rw[zl,ir]),zC (by rw[zl];omega),ht];have w5:=qe (B:=zgm (flo n w,idx w.length,(t:Int),(w.length:Int)) Z) (fun i=>((i:Int),yA (flo n w) (Z.take i))) t (fun i hi=>by
  obtain ⟨x,hx⟩:∃ x,Z[i]? = some x:=⟨_,Aa (by omega)⟩;have hxm:=zij.1 ((z2.2.2 x).1 (Ad hx));have bl:(yA (flo n w) (Z.take i)).length=w.length:=by rw[zbC];simp[flo]
  have bg:(yA (flo n w) (Z.take i))[x.toNat]? = some ((yA (flo n w) (Z.take i)).getD x.toNat 0):=by simp[List.getD,show x.toNat < (yA (flo n w) (Z.take i)).length by omega]
  have bnd:∀ (is out:List Int) (M:Int),(∀ y∈out,0<=y∧y<=M)->∀ y∈yA out is,0<=y∧y<=M+is.length:=by
   intro is
   induction is with
   | nil=>intro out M hM y hy;have:=hM y hy;simp;omega
   | cons j is ih =>
    intro out M hM y hy;have:=ih (bump out j) (M+1) (fun z hz=>by
     rcases CL hz with hz | rfl
     ·have:=hM z hz;omega
     ·by_cases hj:j.toNat < out.length
      ·have hv:0<=out.getD j.toNat 0∧out.getD j.toNat 0<=M:=hM _ (by simp[List.getD,hj]);change 0<=out.getD j.toNat 0+1∧out.getD j.toNat 0+1<=M+1;omega
      ·simp[bump,List.set_eq_of_length_le (show out.length<=j.toNat by omega)] at hz;have:=hM (out.getD j.toNat 0+1) (by simpa[List.getD] using hz);change 0<=out.getD j.toNat 0+1∧out.getD j.toNat 0+1<=M+1
       omega) y hy
    simp only[As,Cx,CZ];omega
  have hb:=bnd (Z.take i) (flo n w) 1000000000000 (h.flo_in) _ (Ad bg);have hti:((Z.take i).length:Int)<=60:=by
   have:(Z.take i).length<=60:=by simp;omega
   omega
  simp only[zgm,AH,Int.toNat_zero,Df,show (i:Int) < (t:Int) by omega,decide_true,zh,AW];rw[zC (by constructor<;>first | omega | trivial),hx,zj,zC (by rw[bl];omega),bg,zj,zC (by rw[bl];omega)]
  simp only[zj,j9];rw[zN (by omega) (by omega),zN (by omega) (by omega),BF,hx];rw[show (Option.toList (some x))=[x] from rfl,zkn]
  rfl)
 have w6:=w5.trans (zE (y:=((t:Int),yA (flo n w) (Z.take t))) (by simp[zgm]));rw[show ((0:Int),flo n w)=(((0:Nat):Int),yA (flo n w) (Z.take 0)) by simp[yA],w6,zV];simp
end
end
section
section
variable {n:Int} {w:List Int}
def P386_err (h:zeI n w≠0):P386 n w=some ([],zk (zeI n w)):=by
 unfold P386 S386;unfold zeI at h ⊢;simp only[zey,zj];by_cases hn:zgD n=true
 case neg=>rw[if_neg hn];simp[hn,zk]
 rw[if_pos hn] at h ⊢;simp only[hn,AU,za];by_cases hl:w.length=0∨60 < w.length
 ·rw[if_pos hl];rcases hl with hl | hl
  ·simp[hl,zk]
  ·simp[show (60:Int) < (w.length:Int) by omega,show ¬ ((w.length:Int)=0) by omega,zk]
 ·rw[if_neg hl] at h ⊢;simp only[show ¬ ((w.length:Int)=0) by omega,decide_false,za,show ¬ ((60:Int) < (w.length:Int)) by omega,zA,zV,z7];have w1:=ziR (B:=gl P392 w) w (([]:List Int),Err.no 1) (by omega) (fun i x s hx=>by
   have hi:(i:Int) < (w.length:Int):=by have:=(Ac.1 hx).1;omega
   simp only[gl,hi,decide_true,zh,zi,hx,zj,zey];cases zgD x<;>simp) (fun s=>by simp[gl])
  rw[w1];by_cases hv:w.all zgD=true
  ·rw[if_pos hv] at h;rw[if_pos hv,if_pos hv,zV];by_cases hs:w.sum=0
   ·simp[hs,zk]
   ·rw[if_neg hs] at h;exact absurd rfl h
  ·rw[if_neg hv,if_neg hv,jn_r];simp[zk]
end
end
section
def qL (n:Int) (m:Nat):List Int:=(List.range m).map fun (i:Nat)=>n / (m:Int)+if (i:Int) < n % (m:Int) then 1 else 0
def qF (n:Int) (m:Nat):(qL n m).length=m:=by simp[qL]
def zby {n:Int} {m i:Nat} (h:i < m):(qL n m)[i]? = some (n / (m:Int)+if (i:Int) < n % (m:Int) then 1 else 0):=by simp[qL,h]
def wT (n p:Int):List Int×Int:=if zgD n=true∧1<=p∧p<=60 then (qL n p.toNat,0) else ([],1)
def zjm {n:Int} {m:Nat} (hn:zgD n=true) (hm:1<=m∧m<=60):Int.tdiv n m=n / m∧Int.tmod n m=n % m∧0<=n / (m:Int)∧n / (m:Int)<=1000000:=by have gI:=ju.1 hn;refine ⟨Int.tdiv_eq_ediv_of_nonneg gI.1,CG gI.1,Cy gI.1 (by omega),CX (Int.ediv_le_self _ gI.1) gI.2⟩
def ziN (n p:Int):P384 n p=some ((wT n p).1,zk (wT n p).2):=by
 unfold P384 S384 wT;simp only[zey,zj];by_cases hn:zgD n=true
 case neg=>simp[hn,zk]
 by_cases h1:p < 1
 ·simp[hn,h1,show ¬ (1<=p∧p<=60) by omega,zk]
 by_cases h2:60 < p
 ·simp[hn,h1,h2,show ¬ (1<=p∧p<=60) by omega,zk]
 obtain ⟨m,rfl⟩:∃ m:Nat,p=m:=⟨p.toNat,by omega⟩;have hm:1<=m∧m<=60:=by omega
 rw[if_pos ⟨hn,by omega,by omega⟩];obtain ⟨e1,e2,e3,e4⟩:=zjm hn hm;simp only[hn,AU,za,h1,decide_false,h2,zA,zV,AH,z7];rw[zC (by unfold zP;omega)];have hs:=qe (B:=zgn n (m:Int)) (fun i=>((i:Int),(qL n m).take i++List.replicate (m - i) 0)) m (fun i hi=>by
  have ki:((qL n m).take i).length=i:=by simp[qF];omega
  have rep:List.replicate (m - i) (0:Int)=0 :: List.replicate (m - (i+1)) 0:=by rw[show m - i=m - (i+1)+1 by omega];rfl
  have g0:∀ v,((qL n m).take i++v :: List.replicate (m - (i+1)) (0:Int))[i]? = some v:=fun v=>by rw[AM (by omega),ki];simp
  have st:∀ u v:Int,((qL n m).take i++u :: List.replicate (m - (i+1)) (0:Int)).set i v=(qL n m).take i++v :: List.replicate (m - (i+1)) 0:=fun u v=>(by have:=mq ((qL n m).take i) (List.replicate (m - (i+1)) 0) v u i ki.symm;exact this);have ln:∀ v:Int,((qL n m).take i++v :: List.replicate (m - (i+1)) (0:Int)).length=m:=fun v=>by simp[qF];omega
  have fin:∀ v,(qL n m)[i]? = some v->(qL n m).take i++v :: List.replicate (m - (i+1)) 0=(qL n m).take (i+1)++List.replicate (m - (i+1)) 0:=fun v hv=>by rw[BF,hv];simp
  have wI:wi ((i:Int)+1)=((i+1:Nat):Int):=by rw[zN (by omega) (by omega)];omega
  simp only[zgn,Cn,AH,show (i:Int) < (m:Int) by omega,decide_true,zh,show ¬ ((m:Int)=0) by omega,not_false_eq_true,yi];rw[rep,zC (by rw[ln];omega),g0,zj,e1,e2,zN (n:=n / (m:Int)) (by omega) (by omega)];simp only[st,g0,zj];have gi:=zby (n:=n) hi;by_cases hc:(i:Int) < n % (m:Int)
  ·rw[if_pos hc] at gi;rw[decide_eq_true hc,zh,zC (by rw[ln];omega),zC (by rw[ln];omega),zA,zV,wI,zN (n:=n / (m:Int)+1) (by omega) (by omega),fin _ gi];rfl
  ·rw[if_neg hc,Int.add_zero] at gi;rw[decide_eq_false hc,za,zA,zV,wI,fin _ gi]
   rfl)
 have h0:=hs.trans (zE (y:=((m:Int),(qL n m).take m++List.replicate (m - m) 0)) (by simp[zgn]));have hf:(qL n m).take m++List.replicate (m - m) 0=qL n m:=by rw[Bf (by rw[qF];exact AF _)];simp
 rw[hf] at h0;rw[show ((0:Int),List.replicate m (0:Int))=(((0:Nat):Int),(qL n m).take 0++List.replicate (m - 0) 0) by simp,h0,zV];rfl
open Classical in
def ordL (n:Int) (w:List Int):List Int:=if h:∃ Z,Srt (zeJ n w) Z (idx w.length) then choose h else []
def yb (n:Int) (w:List Int):List Int×Int:=if zeI n w=0 then (yA (flo n w) ((ordL n w).take (wM n w).toNat),0) else ([],zeI n w)
def ordL_ok {n:Int} {w:List Int} (h:LikeOk n w):Srt (zeJ n w) (ordL n w) (idx w.length):=by obtain ⟨Z,z,_⟩:=P386_ok h;have hz:∃ Z,Srt (zeJ n w) Z (idx w.length):=⟨Z,z⟩;unfold ordL;rw[dif_pos hz];exact Classical.choose_spec hz
def P386_eq (n:Int) (w:List Int):P386 n w=some ((yb n w).1,zk (yb n w).2):=by
 unfold yb;by_cases h:zeI n w=0
 ·rw[if_pos h];obtain ⟨Z,z1,z2⟩:=P386_ok (zaX.1 h);have o:=ordL_ok (zaX.1 h);have e:Z=ordL n w:=ord_ext z1.1 o.1 fun x=>by rw[z1.2.2,o.2.2]
  rw[z2,e];rfl
 ·rw[if_neg h,P386_err h]
def zdH {o:List Dim} {p q:List Int} (ok:OutOk o) (hf:Fit o p) (hq:q∈zm o p):Fit o q∧yw o q=true∧(pwL (zbG o p q)).isSome=true:=by rw[← zax ok hf] at hq;obtain ⟨h1,h2⟩:=BH.1 hq;obtain ⟨n,_,rfl⟩:=Al.1 h1;simp only[zbZ,Am] at h2;exact ⟨digs_fit ok n,h2.1,h2.2⟩
def leaf_len {o:List Dim} {p:List Int} (ok:OutOk o) (hf:Fit o p):(zm o p).length<=1000000:=by rw[← zax ok hf];obtain ⟨aD,hle⟩:=ok.sizeN;refine AO (BG _ _) ?_;simp;omega
def zbH (l:List Entry) (q:List Int):Int:=(cellL (zcM l q)).n
def jb (o:List Dim) (l:List Entry) (p:List Int) (n:Int):List Edit×Int :=
 if zhw o l=0 then
  if jB o p=0 then
   if (zm o p).length=0∨(zm o p).any (fun q => !decide ((pwR (zbG o p q)).1=1))=true then ([],3)
   else if 60 < (zm o p).length then ([],4)
   else
    let was:=(zm o p).map (zbH l)
    let r:=if was.any (fun k=>decide (0 < k))=true∧was.any (fun k=>decide (k < 0))=false then yb n was else wT n (zm o p).length
    if r.2=0 then ((zm o p).zipWith (fun q k=>⟨q,k,false⟩) r.1,0) else ([],r.2)
  else ([],jB o p)
 else ([],zhw o l)
def yh (L:List (List Int)) (r:List Int):List Edit:=L.zipWith (fun q k=>⟨q,k,false⟩) r
def zki {L:List (List Int)} {r:List Int} {i:Nat} {q:List Int} {k:Int} (h1:L[i]? = some q) (h2:r[i]? = some k):(yh L r).take i++[⟨q,k,false⟩]=(yh L r).take (i+1):=by
 have e:(yh L r)[i]? = some ⟨q,k,false⟩:=by unfold yh;rw[List.getElem?_zipWith,h1,h2]
 rw[BF,e];rfl
def likeR_len {n:Int} {w:List Int} (h:(yb n w).2=0):(yb n w).1.length=w.length:=by
 unfold yb at h ⊢;split
 ·rw[zbC];simp[flo]
 ·rename_i c;rw[if_neg c] at h;exact absurd h c
def evenR_len {n:Int} {m:Nat} (h:(wT n m).2=0):(wT n m).1.length=m:=by
 unfold wT at h ⊢;split
 ·simp[qF]
 ·rename_i c;rw[if_neg c] at h;cases h
section
variable {o:List Dim} {l:List Entry} {p:List Int} {n:Int}
def was_loop {α:Type} {B:(Bool×Bool×List Int×Int)->Option (LR (Bool×Bool×List Int×Int) α)} (L:List (List Int)) (f:List Int->Int) (bad:List Int->Bool) (r:α) (hL:L.length<=1000000)
  (step:∀ (i:Nat) (q:List Int) (a b:Bool) (w:List Int),L[i]? = some q->w.length<=1000000->B (a,b,w,(i:Int))=some (if bad q=true then .fin r else .nx (a || decide (0 < f q),b || decide (f q < 0),w++[f q],(i:Int)+1)))
  (hn:∀ a b w,B (a,b,w,(L.length:Int))=some (.dn (a,b,w,(L.length:Int)))) :
  lpO B (false,false,[],0)=some (if L.any bad=true then .inr r else .inl ((L.map f).any (fun k=>decide (0 < k)),(L.map f).any (fun k=>decide (k < 0)),L.map f,(L.length:Int))):=by
 have all:∀ (zs:List (List Int)) (i:Nat),L.drop i=zs->i<=L.length->lpO B ((((L.take i).map f).any fun k=>decide (0 < k)),(((L.take i).map f).any fun k=>decide (k < 0)),(L.take i).map f,(i:Int))=some (if zs.any bad=true then .inr r else .inl ((L.map f).any (fun k=>decide (0 < k)),(L.map f).any (fun k=>decide (k < 0)),L.map f,(L.length:Int))):=by
  intro zs
  induction zs with
  | nil =>
   intro i e hi;have:i=L.length:=by have:=congrArg List.length e;simp at this;omega
   subst this;rw[zE (hn _ _ _)];simp
  | cons q zs ih =>
   intro i e hi;have hx:L[i]? = some q:=(by have:=congrArg (fun l=>l[0]?) e;simpa using this);have nR:i < L.length:=(Ac.1 hx).1;have hs:=step i q (((L.take i).map f).any fun k=>decide (0 < k)) (((L.take i).map f).any fun k=>decide (k < 0)) ((L.take i).map f) hx (by simp;omega);cases hv:bad q with
   | true =>rw[if_pos hv] at hs;rw[jd hs];simp[hv]
   | false =>rw[if_neg (by simp[hv])] at hs;have:=ih (i+1) (by rw[← List.drop_drop,e];simp) (by omega);rw[BF,hx] at this;simp only[Option.toList,Bc,Aq,Bk,List.any_append,Cr,List.any_nil,Bool.or_false,Cx,CZ] at this;rw[z8 hs];rw[this];simp[hv]
 have:=all L 0 rfl (by omega);simpa using this
def P382_eq (hl:Lst Entry.gd l) (hp:p.length<=9223372036854775807):P382 o l p n=some ((jb o l p n).1,zk (jb o l p n).2):=by
 unfold P382 S382;simp only[P349_eq hl,zj,zt,P127_eq o p hp];unfold jb;by_cases hc:zhw o l=0
 case neg=>rw[if_neg hc];simp[hc]
 rw[if_pos hc];have aQ:EntsOk o l:=gq.1 (by unfold zhw at hc;split at hc<;>first | exact hc | (rename_i g;exact absurd hc g))
 have he:jc o p=jB o p:=by unfold jc;rw[if_pos (zdv.2 aQ.out)]
 by_cases hf:jB o p=0
 case neg =>
  rw[if_neg hf];simp[hc,he,hf,zk]
 have fit:=ye.1 hf;have lY:jc o p=0:=by rw[he];exact hf
 have hlf:=leaf_len aQ.out fit;rw[if_pos hf,if_pos lY];simp only[hc,decide_true,AU,za,ya];by_cases h0:(zm o p).length=0
 ·simp[h0,zk]
 simp only[show ¬ (((zm o p).length:Int)=0) by omega,decide_false,za,z7,h0,false_or];have wl:=was_loop (B:=zgp P111 P57 o l p (zm o p,Err.nil)) (zm o p) (zbH l) (fun q => !decide ((pwR (zbG o p q)).1=1)) (([]:List Edit),Err.no 3) hlf (fun i q a b w hq hw=>by
  have hi:=(Ac.1 hq).1;obtain ⟨f1,f2,f3⟩:=zdH aQ.out fit (Ad hq);have lX:q.length<=9223372036854775807:=by rw[f1.len,← fit.len];exact hp
  have hqe:jc o q=0:=lR.2 ⟨aQ.out,f1⟩;simp only[zgp,show (i:Int) < ((zm o p).length:Int) by omega,decide_true,zh,zi,hq,zj,P111_eq o p q hp lX,if_pos lY,if_pos hqe,f2,f3,CU,if_true,ya,AU,za];by_cases gw:(pwR (zbG o p q)).1=1
  ·simp only[gw,not_true,decide_false,za,decide_true,AU,if_false,P57_eq (ris_of aQ.rise) hl lX,zj];have cd:w.length+1<=zP:=by unfold zP;omega
   have hwi:wi ((i:Int)+1)=(i:Int)+1:=zN (by omega) (by omega);cases a<;>cases b<;>simp[zbH,cd,hwi]<;>first | rfl | exact ⟨rfl,rfl⟩ | congr | exact ⟨by congr,by congr⟩
  ·simp[gw]) (fun a b w=>by simp[zgp])
 rw[wl];by_cases fx:(zm o p).any (fun q => !decide ((pwR (zbG o p q)).1=1))=true
 ·rw[if_pos fx,if_pos fx,jn_r];simp[zk]
 rw[if_neg fx,if_neg fx,zV];by_cases fZ:60 < (zm o p).length
 ·simp[fZ,show (60:Int) < ((zm o p).length:Int) by omega,zk]
 rw[if_neg fZ];simp only[show ¬ (60:Int) < ((zm o p).length:Int) by omega,decide_false,za,ziN,zj];generalize pR:((zm o p).map (zbH l)).any (fun k=>decide (0 < k))=sm;generalize rk:((zm o p).map (zbH l)).any (fun k=>decide (k < 0))=ls;generalize hr:(if sm=true∧ls=false then yb n ((zm o p).map (zbH l)) else wT n (zm o p).length)=r
 have iE:r.2=0->r.1.length=(zm o p).length:=by
  intro h;subst hr;by_cases ry:sm=true∧ls=false
  ·rw[if_pos ry] at h ⊢;rw[likeR_len h,Ap]
  ·rw[if_neg ry] at h ⊢;exact evenR_len h
 have kz:∀ {α:Type} (K:Err×List Int->Option α),(jn (σ:=Bool) (α:=α) (br sm (zu (some (!ls))) (zu (some false))) fun bF =>
   jn (σ:=Err×List Int) (α:=α) (br bF (bno (P386 n ((zm o p).map (zbH l))) fun cR=>zu (some (cR.2,cR.1))) (zu (some (zk (wT n (zm o p).length).2,(wT n (zm o p).length).1)))) K)=K (zk r.2,r.1):=by
  intro α K;subst hr;cases sm<;>cases ls<;>simp[P386_eq]
 rw[kz];simp only[zt];by_cases hz:r.2=0
 case neg=>simp[hz]
 have iE:=iE hz;simp only[hz,decide_true,AU,za,if_true,z7];have hs:=qe (B:=zgo (zm o p,Err.nil) (zk 0,r.1)) (fun i=>((yh (zm o p) r.1).take i,(i:Int))) (zm o p).length (fun i hi=>by
  have g1:=Aa hi;have g2:=Aa (show i < r.1.length by omega);simp only[zgo,show (i:Int) < ((zm o p).length:Int) by omega,decide_true,zh,zi,g1,g2,zj];rw[zC (by simp[zgP];omega),zki g1 g2,zN (by omega) (by omega)]
  rfl)
 have h0:=hs.trans (zE (y:=((yh (zm o p) r.1).take (zm o p).length,((zm o p).length:Int))) (by simp[zgo]));rw[show (([]:List Edit),(0:Int))=((yh (zm o p) r.1).take 0,((0:Nat):Int)) by simp,h0,zV];rw[Bf (by simp[yh];omega)];rfl
end
end
end Ab
