import Derived.Test.YtkaifdgeigdbhaaGreatDoorS1
import Derived.Test.YtkaifdgeigdbhaaGreatDoorMSe
import Derived.Test.YtkaifdgeigdbhaaGreatDoorQCb
import Derived.Test.YtkaifdgeigdbhaaGreatDoorHK
set_option linter.all false
noncomputable section
namespace Ab
open Go
section
def zfQ (n:Int):Bool:=decide (0<=n∧n<=1000000)
def yd {n:Int}:zfQ n=true↔0<=n∧n<=1000000:=by simp[zfQ]
def zdL (n:Int):P392 n=some (zfQ n):=by
 unfold P392 S392 zfQ;by_cases h:0<=n
 ·simp[h]
 ·simp[h]
def zgo (n:Int) (w:List Int):Int:=if zfQ n=true then (if w.length=0∨60 < w.length then 4 else if w.all zfQ=true then (if w.sum=0 then 3 else 0) else 1) else 1
structure LikeOk (n:Int) (w:List Int):Prop where
 n0:0<=n∧n<=1000000
 l0:0 < w.length
 l1:w.length<=60
 wv:∀ x∈w,0<=x∧x<=1000000
 s0:w.sum≠0
def zhE {n:Int} {w:List Int}:zgo n w=0↔LikeOk n w:=by
 unfold zgo;constructor
 ·intro h;split at h
  ·rename_i h1;split at h
   ·cases h
   ·rename_i h2;split at h
    ·rename_i h3;split at h
     ·cases h
     ·rename_i h4;exact ⟨yd.1 h1,by omega,by omega,fun x hx=>yd.1 (Af.1 h3 x hx),h4⟩
    ·cases h
  ·cases h
 ·intro h;have:=h.l0;have:=h.l1;rw[if_pos (yd.2 h.n0),if_neg (by omega),if_pos (Af.2 fun x hx=>yd.2 (h.wv x hx)),if_neg h.s0]
def zcF {l:List Int} {M:Int} (h:∀ x∈l,0<=x∧x<=M):0<=l.sum∧l.sum<=l.length * M:=by
 induction l with
 | nil=>simp
 | cons a l ih =>obtain ⟨h1,h2⟩:=ih fun x hx=>h x (by simp[hx]);have:=h a (by simp);simp only[B6,Au,CP,Int.add_mul,Int.natCast_one,Int.one_mul];omega
def sum_take (w:List Int) (i:Nat) (x:Int) (h:w[i]? = some x):(w.take (i+1)).sum=(w.take i).sum+x:=by rw[Bo,h];simp
def zib {α:Type} {B:Int×Int->Option (LR (Int×Int) α)} (w:List Int) (r:α) (hlen:w.length<=60)
  (step:∀ (i:Nat) (x s:Int),w[i]? = some x->B ((i:Int),s)=some (if zfQ x=true then .nx (wi ((i:Int)+1),wi (s+x)) else .fin r))
  (hn:∀ s,B ((w.length:Int),s)=some (.dn ((w.length:Int),s))) :
  lpO B (0,0)=some (if w.all zfQ=true then .inl ((w.length:Int),w.sum) else .inr r):=by
 have all:∀ (zs:List Int) (i:Nat),w.drop i=zs->i<=w.length->(∀ x∈w.take i,0<=x∧x<=1000000)->lpO B ((i:Int),(w.take i).sum)=some (if zs.all zfQ=true then .inl ((w.length:Int),w.sum) else .inr r):=by
  intro zs
  induction zs with
  | nil =>
   intro i e hi _;have:i=w.length:=by have:=congrArg List.length e;simp at this;omega
   subst this;rw[zB (hn _)];simp
  | cons x zs ih =>
   intro i e hi hb;have hx:w[i]? = some x:=(by have:=congrArg (fun l=>l[0]?) e;simpa using this);have hil:i < w.length:=(Ac.1 hx).1;have hs:=step i x (w.take i).sum hx;by_cases hv:zfQ x=true
   ·rw[if_pos hv] at hs;have gC:=yd.1 hv;obtain ⟨b1,b2⟩:=zcF hb;have hl:((w.take i).length:Int)<=60:=by
     have:(w.take i).length<=w.length:=by simp;omega
     omega
    have hb3:(w.take i).sum<=60000000:=CN b2 (by omega);rw[zZ hs,zN (n:=(i:Int)+1) (by omega) (by omega),zN (by omega) (by omega),← sum_take w i x hx];have:=ih (i+1) (by rw[← List.drop_drop,e];simp) (by omega) (fun y hy=>by
     rw[Bo,hx] at hy;rcases Ak.1 hy with hy | hy
     ·exact hb y hy
     ·simp at hy;subst hy;exact gC)
    rw[show ((i:Int)+1)=((i+1:Nat):Int) by omega,this];simp[A6,hv]
   ·rw[if_neg hv] at hs;rw[qL hs];simp[A6,hv]
 have:=all w 0 rfl (by omega) (by simp);simpa using this
def keyL (n:Int) (w:List Int) (i:Int):Int:=n * w.getD i.toNat 0 % w.sum
def flo (n:Int) (w:List Int):List Int:=w.map fun x=>n * x / w.sum
def idx (m:Nat):List Int:=(List.range m).map fun (i:Nat)=>(i:Int)
def idx_up (m:Nat):(idx m).Pairwise (· < ·):=by unfold idx;rw[List.pairwise_map];exact List.pairwise_lt_range.imp fun h=>by omega
def kr (m:Nat):(idx m).length=m:=by simp[idx]
def idx_mem {m:Nat} {x:Int}:x∈idx m↔0<=x∧x < m:=by
 unfold idx;simp only[Am,AR];constructor
 ·rintro ⟨i,h,rfl⟩;omega
 ·intro h;exact ⟨x.toNat,by omega,by omega⟩
def bump (out:List Int) (i:Int):List Int:=out.set i.toNat (out.getD i.toNat 0+1)
def zak (out is:List Int):List Int:=is.foldl bump out
def bump_len (out:List Int) (i:Int):(bump out i).length=out.length:=by simp[bump]
def zdt:∀ (is out:List Int),(zak out is).length=out.length
 | [],_=>rfl
 | i :: is,out=>by show (zak (bump out i) is).length=_;rw[zdt is,bump_len]
def zjG (out is:List Int) (i:Int):zak out (is++[i])=bump (zak out is) i:=by simp[zak]
def dJ (n:Int) (w:List Int):Int:=n - (flo n w).sum
def map_sum {n:Int} (f g:Int->Int) (c:Int):∀ l:List Int,(∀ x∈l,f x * c+g x=n * x)->(l.map f).sum * c+(l.map g).sum=n * l.sum
 | [],_=>by simp
 | a :: l,h=>by
  have h1:=h a (by simp);have h2:=map_sum f g c l fun x hx=>h x (by simp[hx]);simp only[Ar,B6,Int.add_mul,Int.mul_add];omega
def left_eq (n:Int) (w:List Int):dJ n w * w.sum=(w.map fun x=>n * x % w.sum).sum:=by
 have h:=map_sum (n:=n) (fun x=>n * x / w.sum) (fun x=>n * x % w.sum) w.sum w (fun x _=>by
  have:=Int.mul_ediv_add_emod (n * x) w.sum;rw[Int.mul_comm];exact this)
 unfold dJ flo;rw[Int.sub_mul];omega
section
variable {n:Int} {w:List Int}
def LikeOk.spos (h:LikeOk n w):0 < w.sum∧w.sum<=60000000:=by have h1:=zcF h.wv;have:=h.s0;have:=h.l1;omega
def LikeOk.prod (h:LikeOk n w) {x:Int} (hx:x∈w):0<=n * x∧n * x<=1000000000000:=by obtain ⟨a,b⟩:=h.n0;obtain ⟨c,d⟩:=h.wv x hx;refine ⟨Int.mul_nonneg a c, ?_⟩;have:=Int.mul_le_mul b d c (by omega);simpa using this
def LikeOk.left (h:LikeOk n w):0<=dJ n w∧dJ n w<=w.length:=by obtain ⟨s1,s2⟩:=h.spos;have e:=left_eq n w;have hb:∀ x∈(w.map fun x=>n * x % w.sum),0<=x∧x<=w.sum:=fun y hy=>(by obtain ⟨x,hx,rfl⟩:=Am.1 hy;exact ⟨Int.emod_nonneg _ (by omega),Int.le_of_lt (Int.emod_lt_of_pos _ s1)⟩);obtain ⟨b1,b2⟩:=zcF hb;rw[An] at b2;rw[← e] at b1 b2;exact ⟨Int.nonneg_of_mul_nonneg_left b1 s1,Int.le_of_mul_le_mul_right b2 s1⟩
def flo_get {i:Nat} {x:Int} (h:w[i]? = some x):(flo n w)[i]? = some (n * x / w.sum):=by simp[flo,h]
def LikeOk.flo_in (h:LikeOk n w):∀ y∈flo n w,0<=y∧y<=1000000000000:=fun y hy=>by
 obtain ⟨x,hx,rfl⟩:=Am.1 hy;obtain ⟨p1,p2⟩:=h.prod hx;obtain ⟨s1,s2⟩:=h.spos;exact ⟨Int.ediv_nonneg p1 (by omega),CN (Int.ediv_le_self _ p1) p2⟩
def LikeOk.cut (h:LikeOk n w) (i:Nat):0<=((flo n w).take i).sum∧((flo n w).take i).sum<=60000000000000:=by
 have:=zcF (l:=(flo n w).take i) (M:=1000000000000) fun y hy=>h.flo_in y (BF hy);have h1:(((flo n w).take i).length:Int)<=60:=by
  have:=h.l1;have:((flo n w).take i).length<=60:=by simp[flo];omega
  omega
 refine ⟨this.1,CN this.2 (by omega)⟩
def LikeOk.cmp (h:LikeOk n w):zfJ zbb (n,w,w.sum) (keyL n w) (fun x=>0<=x∧x < w.length):=by
 rintro x y ⟨x0,x1⟩ ⟨y0,y1⟩;obtain ⟨s1,s2⟩:=h.spos;have gx:zA w x=some w[x.toNat]:=zcn x0 x1;have gy:zA w y=some w[y.toNat]:=zcn y0 y1;have px:=h.prod (AO (l:=w) (n:=x.toNat) (by omega));have py:=h.prod (AO (l:=w) (n:=y.toNat) (by omega));have dx:w.getD x.toNat 0=w[x.toNat]'(by omega):=by simp[List.getD,show x.toNat < w.length by omega]
 have dy:w.getD y.toNat 0=w[y.toNat]'(by omega):=by simp[List.getD,show y.toNat < w.length by omega]
 unfold zbb S394;simp only[gx,gy,zk,show ¬ w.sum=0 by omega,not_false_eq_true,decide_true,jP,P81_eq];rw[zN (by omega) (by omega),zN (by omega) (by omega),Ct px.1,Ct py.1];refine ⟨_,rfl, ?_⟩;unfold keyL;rw[dx,dy];split
 ·rename_i g;exact ⟨fun _=>g,fun _=>by omega⟩
 ·rename_i g;split
  ·exact ⟨fun q=>by omega,fun q=>absurd q g⟩
  ·exact ⟨fun q=>by omega,fun q=>absurd q g⟩
def P386_ok (h:LikeOk n w):∃ Z,Srt (keyL n w) Z (idx w.length)∧P386 n w=some (zak (flo n w) (Z.take (dJ n w).toNat),.nil):=by
 obtain ⟨s1,s2⟩:=h.spos;have l0:=h.l0;have l1:=h.l1;have n0:=h.n0;obtain ⟨Z,z1,z2⟩:=P393_eq h.cmp (idx w.length) (by rw[kr];exact l1) (fun x hx=>idx_mem.1 hx) (idx_up _);refine ⟨Z,z2, ?_⟩;have zl:Z.length=w.length:=by rw[z2.2.1,kr]
 unfold P386 S386;simp only[zdL,yd.2 n0,zk,A8,za,show ¬ ((w.length:Int)=0) by omega,decide_false,za,show ¬ ((60:Int) < (w.length:Int)) by omega,zx,z8,qe]
 have w1:=zib (B:=zaD P392 w) w (([]:List Int),Err.no 1) l1 (fun i x s hx=>by
   have hi:(i:Int) < (w.length:Int):=by have:=(Ac.1 hx).1;omega
   simp only[zaD,hi,decide_true,zh,zi,hx,zk,zdL];cases zfQ x<;>simp) (fun s=>by simp[zaD])
 rw[w1,if_pos (Af.2 fun x hx=>yd.2 (h.wv x hx)),z8];simp only[show ¬ (w.sum=0) by omega,decide_false,za];have w2:=qr (B:=zbE n w ((w.length:Int),w.sum)) (fun i=>(((flo n w).take i),idx i,n - ((flo n w).take i).sum,(i:Int))) w.length (fun i hi=>by
  obtain ⟨x,hx⟩:∃ x,w[i]? = some x:=⟨_,Aa hi⟩;obtain ⟨p1,p2⟩:=h.prod (Ad hx);have q1:=Int.ediv_nonneg p1 (show 0<=w.sum by omega);have q2:=Int.ediv_le_self w.sum p1;have fg:=flo_get (n:=n) hx;have ft:(flo n w).take (i+1)=(flo n w).take i++[n * x / w.sum]:=by rw[Bo,fg];rfl
  have ftl:((flo n w).take i).length=i:=by simp[flo];omega
  have cut:=h.cut i;have cut2:=h.cut (i+1);have st:((flo n w).take (i+1)).sum=((flo n w).take i).sum+n * x / w.sum:=by rw[ft];simp
  simp only[zbE,show (i:Int) < (w.length:Int) by omega,decide_true,zh,zi,hx,zk,show ¬ (w.sum=0) by omega,not_false_eq_true,jP];rw[zN (n:=n * x) (by omega) (by omega),Int.tdiv_eq_ediv_of_nonneg p1,zN (n:=n * x / w.sum) (by omega) (by omega),← ft];rw[zy (by simp[ftl,zX];omega),zy (by simp[kr,zX];omega)];have fl2:((flo n w).take (i+1)).length=i+1:=by simp[flo];omega
  rw[zy (by rw[fl2];omega),AG,show ((flo n w).take (i+1))[i]? = some (n * x / w.sum) by rw[AX (by omega),fg],zk,yN,zN (by omega) (by omega),zN (by omega) (by omega)];rw[st,show idx i++[(i:Int)]=idx (i+1) by simp[idx,BW]];rw[show n - ((flo n w).take i).sum - n * x / w.sum=n - (((flo n w).take i).sum+n * x / w.sum) by omega]
  rfl)
 have w3:=zB (B:=zbE n w ((w.length:Int),w.sum)) (x:=(((flo n w).take w.length),idx w.length,n - ((flo n w).take w.length).sum,(w.length:Int))) (y:=(((flo n w).take w.length),idx w.length,n - ((flo n w).take w.length).sum,(w.length:Int))) (by simp[zbE]);have ff:(flo n w).take w.length=flo n w:=BG (by simp[flo]);have w4:lpO (zbE n w ((w.length:Int),w.sum)) (([]:List Int),([]:List Int),n,(0:Int))=some (.inl (flo n w,idx w.length,dJ n w,(w.length:Int))):=(by have:=w2.trans w3;rw[ff] at this;simpa[idx,dJ] using this);rw[w4,z8];obtain ⟨t1,t2⟩:=h.left;obtain ⟨t,ht⟩:∃ t:Nat,dJ n w=t:=⟨(dJ n w).toNat,by omega⟩;simp only[z1,zk];rw[zy (by rw[zl,kr]),zy (by rw[zl];omega),ht];have w5:=qr (B:=zfx (flo n w,idx w.length,(t:Int),(w.length:Int)) Z) (fun i=>((i:Int),zak (flo n w) (Z.take i))) t (fun i hi=>by
  obtain ⟨x,hx⟩:∃ x,Z[i]? = some x:=⟨_,Aa (by omega)⟩;have hxm:=idx_mem.1 ((z2.2.2 x).1 (Ad hx));have bl:(zak (flo n w) (Z.take i)).length=w.length:=by rw[zdt];simp[flo]
  have bg:(zak (flo n w) (Z.take i))[x.toNat]? = some ((zak (flo n w) (Z.take i)).getD x.toNat 0):=by simp[List.getD,show x.toNat < (zak (flo n w) (Z.take i)).length by omega]
  have bnd:∀ (is out:List Int) (M:Int),(∀ y∈out,0<=y∧y<=M)->∀ y∈zak out is,0<=y∧y<=M+is.length:=by
   intro is
   induction is with
   | nil=>intro out M hM y hy;have:=hM y hy;simp;omega
   | cons j is ih =>
    intro out M hM y hy;have:=ih (bump out j) (M+1) (fun z hz=>by
     rcases Cx hz with hz | rfl
     ·have:=hM z hz;omega
     ·by_cases hj:j.toNat < out.length
      ·have hv:0<=out.getD j.toNat 0∧out.getD j.toNat 0<=M:=hM _ (by simp[List.getD,hj]);change 0<=out.getD j.toNat 0+1∧out.getD j.toNat 0+1<=M+1;omega
      ·simp[bump,List.set_eq_of_length_le (show out.length<=j.toNat by omega)] at hz;have:=hM (out.getD j.toNat 0+1) (by simpa[List.getD] using hz);change 0<=out.getD j.toNat 0+1∧out.getD j.toNat 0+1<=M+1
       omega) y hy
    simp only[Au,CP,Int.natCast_one];omega
  have hb:=bnd (Z.take i) (flo n w) 1000000000000 (h.flo_in) _ (Ad bg);have hti:((Z.take i).length:Int)<=60:=by
   have:(Z.take i).length<=60:=by simp;omega
   omega
  simp only[zfx,AG,Int.toNat_zero,C2,show (i:Int) < (t:Int) by omega,decide_true,zh,A3];rw[zy (by constructor<;>first | omega | trivial),hx,zk,zy (by rw[bl];omega),bg,zk,zy (by rw[bl];omega)]
  simp only[zk,yN];rw[zN (by omega) (by omega),zN (by omega) (by omega),Bo,hx];rw[show (Option.toList (some x))=[x] from rfl,zjG]
  rfl)
 have w6:=w5.trans (zB (y:=((t:Int),zak (flo n w) (Z.take t))) (by simp[zfx]));rw[show ((0:Int),flo n w)=(((0:Nat):Int),zak (flo n w) (Z.take 0)) by simp[zak],w6,z8];simp
end
end
section
section
variable {n:Int} {w:List Int}
def P386_err (h:zgo n w≠0):P386 n w=some ([],zm (zgo n w)):=by
 unfold P386 S386;unfold zgo at h ⊢;simp only[zdL,zk];by_cases hn:zfQ n=true
 case neg=>rw[if_neg hn];simp[hn,zm]
 rw[if_pos hn] at h ⊢;simp only[hn,A8,za];by_cases hl:w.length=0∨60 < w.length
 ·rw[if_pos hl];rcases hl with hl | hl
  ·simp[hl,zm]
  ·simp[show (60:Int) < (w.length:Int) by omega,show ¬ ((w.length:Int)=0) by omega,zm]
 ·rw[if_neg hl] at h ⊢;simp only[show ¬ ((w.length:Int)=0) by omega,decide_false,za,show ¬ ((60:Int) < (w.length:Int)) by omega,zx,z8,qe];have w1:=zib (B:=zaD P392 w) w (([]:List Int),Err.no 1) (by omega) (fun i x s hx=>by
   have hi:(i:Int) < (w.length:Int):=by have:=(Ac.1 hx).1;omega
   simp only[zaD,hi,decide_true,zh,zi,hx,zk,zdL];cases zfQ x<;>simp) (fun s=>by simp[zaD])
  rw[w1];by_cases hv:w.all zfQ=true
  ·rw[if_pos hv] at h;rw[if_pos hv,if_pos hv,z8];by_cases hs:w.sum=0
   ·simp[hs,zm]
   ·rw[if_neg hs] at h;exact absurd rfl h
  ·rw[if_neg hv,if_neg hv,jn_r];simp[zm]
end
end
section
def wj (n:Int) (m:Nat):List Int:=(List.range m).map fun (i:Nat)=>n / (m:Int)+if (i:Int) < n % (m:Int) then 1 else 0
def wM (n:Int) (m:Nat):(wj n m).length=m:=by simp[wj]
def zgD {n:Int} {m i:Nat} (h:i < m):(wj n m)[i]? = some (n / (m:Int)+if (i:Int) < n % (m:Int) then 1 else 0):=by simp[wj,h]
def dA (n p:Int):List Int×Int:=if zfQ n=true∧1<=p∧p<=60 then (wj n p.toNat,0) else ([],1)
def even_num {n:Int} {m:Nat} (hn:zfQ n=true) (hm:1<=m∧m<=60):Int.tdiv n m=n / m∧Int.tmod n m=n % m∧0<=n / (m:Int)∧n / (m:Int)<=1000000:=by have fV:=yd.1 hn;refine ⟨Int.tdiv_eq_ediv_of_nonneg fV.1,Ct fV.1,Int.ediv_nonneg fV.1 (by omega),CN (Int.ediv_le_self _ fV.1) fV.2⟩
def P384_eq (n p:Int):P384 n p=some ((dA n p).1,zm (dA n p).2):=by
 unfold P384 S384 dA;simp only[zdL,zk];by_cases hn:zfQ n=true
 case neg=>simp[hn,zm]
 by_cases h1:p < 1
 ·simp[hn,h1,show ¬ (1<=p∧p<=60) by omega,zm]
 by_cases h2:60 < p
 ·simp[hn,h1,h2,show ¬ (1<=p∧p<=60) by omega,zm]
 obtain ⟨m,rfl⟩:∃ m:Nat,p=m:=⟨p.toNat,by omega⟩;have hm:1<=m∧m<=60:=by omega
 rw[if_pos ⟨hn,by omega,by omega⟩];obtain ⟨e1,e2,e3,e4⟩:=even_num hn hm;simp only[hn,A8,za,h1,decide_false,h2,zx,z8,AG,qe];rw[zy (by unfold zX;omega)];have hs:=qr (B:=zfy n (m:Int)) (fun i=>((i:Int),(wj n m).take i++List.replicate (m - i) 0)) m (fun i hi=>by
  have ig:((wj n m).take i).length=i:=by simp[wM];omega
  have rep:List.replicate (m - i) (0:Int)=0 :: List.replicate (m - (i+1)) 0:=by rw[show m - i=m - (i+1)+1 by omega];rfl
  have g0:∀ v,((wj n m).take i++v :: List.replicate (m - (i+1)) (0:Int))[i]? = some v:=fun v=>by rw[AF (by omega),ig];simp
  have st:∀ u v:Int,((wj n m).take i++u :: List.replicate (m - (i+1)) (0:Int)).set i v=(wj n m).take i++v :: List.replicate (m - (i+1)) 0:=fun u v=>(by have:=zhm ((wj n m).take i) (List.replicate (m - (i+1)) 0) v u i ig.symm;exact this);have ln:∀ v:Int,((wj n m).take i++v :: List.replicate (m - (i+1)) (0:Int)).length=m:=fun v=>by simp[wM];omega
  have fin:∀ v,(wj n m)[i]? = some v->(wj n m).take i++v :: List.replicate (m - (i+1)) 0=(wj n m).take (i+1)++List.replicate (m - (i+1)) 0:=fun v hv=>by rw[Bo,hv];simp
  have wI:wi ((i:Int)+1)=((i+1:Nat):Int):=by rw[zN (by omega) (by omega)];omega
  simp only[zfy,Cf,AG,show (i:Int) < (m:Int) by omega,decide_true,zh,show ¬ ((m:Int)=0) by omega,not_false_eq_true,jP];rw[rep,zy (by rw[ln];omega),g0,zk,e1,e2,zN (n:=n / (m:Int)) (by omega) (by omega)];simp only[st,g0,zk];have gi:=zgD (n:=n) hi;by_cases hc:(i:Int) < n % (m:Int)
  ·rw[if_pos hc] at gi;rw[decide_eq_true hc,zh,zy (by rw[ln];omega),zy (by rw[ln];omega),zx,z8,wI,zN (n:=n / (m:Int)+1) (by omega) (by omega),fin _ gi];rfl
  ·rw[if_neg hc,Int.add_zero] at gi;rw[decide_eq_false hc,za,zx,z8,wI,fin _ gi]
   rfl)
 have h0:=hs.trans (zB (y:=((m:Int),(wj n m).take m++List.replicate (m - m) 0)) (by simp[zfy]));have hf:(wj n m).take m++List.replicate (m - m) 0=wj n m:=by rw[BG (by rw[wM];exact AJ _)];simp
 rw[hf] at h0;rw[show ((0:Int),List.replicate m (0:Int))=(((0:Nat):Int),(wj n m).take 0++List.replicate (m - 0) 0) by simp,h0,z8];rfl
open Classical in
def ordL (n:Int) (w:List Int):List Int:=if h:∃ Z,Srt (keyL n w) Z (idx w.length) then choose h else []
def zdW (n:Int) (w:List Int):List Int×Int:=if zgo n w=0 then (zak (flo n w) ((ordL n w).take (dJ n w).toNat),0) else ([],zgo n w)
def ordL_ok {n:Int} {w:List Int} (h:LikeOk n w):Srt (keyL n w) (ordL n w) (idx w.length):=by obtain ⟨Z,z,_⟩:=P386_ok h;have hz:∃ Z,Srt (keyL n w) Z (idx w.length):=⟨Z,z⟩;unfold ordL;rw[dif_pos hz];exact Classical.choose_spec hz
def P386_eq (n:Int) (w:List Int):P386 n w=some ((zdW n w).1,zm (zdW n w).2):=by
 unfold zdW;by_cases h:zgo n w=0
 ·rw[if_pos h];obtain ⟨Z,z1,z2⟩:=P386_ok (zhE.1 h);have o:=ordL_ok (zhE.1 h);have e:Z=ordL n w:=ord_ext z1.1 o.1 fun x=>by rw[z1.2.2,o.2.2]
  rw[z2,e];rfl
 ·rw[if_neg h,P386_err h]
def leaf_in {o:List Dim} {p q:List Int} (ok:OutOk o) (hf:Fit o p) (hq:q∈zJ o p):Fit o q∧wH o q=true∧(pwL (zfK o p q)).isSome=true:=by rw[← zeg ok hf] at hq;obtain ⟨h1,h2⟩:=Bz.1 hq;obtain ⟨n,_,rfl⟩:=Am.1 h1;simp only[gO,Al] at h2;exact ⟨digs_fit ok n,h2.1,h2.2⟩
def leaf_len {o:List Dim} {p:List Int} (ok:OutOk o) (hf:Fit o p):(zJ o p).length<=1000000:=by rw[← zeg ok hf];obtain ⟨aH,hle⟩:=ok.sizeN;refine AY (Br _ _) ?_;simp;omega
def wasL (l:List Entry) (q:List Int):Int:=(cellL (getL l q)).n
def zcH (o:List Dim) (l:List Entry) (p:List Int) (n:Int):List Edit×Int :=
 if zgM o l=0 then
  if wg o p=0 then
   if (zJ o p).length=0∨(zJ o p).any (fun q => !decide ((pwR (zfK o p q)).1=1))=true then ([],3)
   else if 60 < (zJ o p).length then ([],4)
   else
    let was:=(zJ o p).map (wasL l)
    let r:=if was.any (fun k=>decide (0 < k))=true∧was.any (fun k=>decide (k < 0))=false then zdW n was else dA n (zJ o p).length
    if r.2=0 then ((zJ o p).zipWith (fun q k=>⟨q,k,false⟩) r.1,0) else ([],r.2)
  else ([],wg o p)
 else ([],zgM o l)
def cS (L:List (List Int)) (r:List Int):List Edit:=L.zipWith (fun q k=>⟨q,k,false⟩) r
def zjA {L:List (List Int)} {r:List Int} {i:Nat} {q:List Int} {k:Int} (h1:L[i]? = some q) (h2:r[i]? = some k):(cS L r).take i++[⟨q,k,false⟩]=(cS L r).take (i+1):=by
 have e:(cS L r)[i]? = some ⟨q,k,false⟩:=by unfold cS;rw[List.getElem?_zipWith,h1,h2]
 rw[Bo,e];rfl
def likeR_len {n:Int} {w:List Int} (h:(zdW n w).2=0):(zdW n w).1.length=w.length:=by
 unfold zdW at h ⊢;split
 ·rw[zdt];simp[flo]
 ·rename_i c;rw[if_neg c] at h;exact absurd h c
def evenR_len {n:Int} {m:Nat} (h:(dA n m).2=0):(dA n m).1.length=m:=by
 unfold dA at h ⊢;split
 ·simp[wM]
 ·rename_i c;rw[if_neg c] at h;cases h
section
variable {o:List Dim} {l:List Entry} {p:List Int} {n:Int}
def was_loop {α:Type} {B:(Bool×Bool×List Int×Int)->Option (LR (Bool×Bool×List Int×Int) α)} (L:List (List Int)) (f:List Int->Int) (bad:List Int->Bool) (r:α) (hL:L.length<=1000000)
  (step:∀ (i:Nat) (q:List Int) (a b:Bool) (w:List Int),L[i]? = some q->w.length<=1000000->B (a,b,w,(i:Int))=some (if bad q=true then .fin r else .nx (a || decide (0 < f q),b || decide (f q < 0),w++[f q],(i:Int)+1)))
  (hn:∀ a b w,B (a,b,w,(L.length:Int))=some (.dn (a,b,w,(L.length:Int)))) :
  lpO B (false,false,[],0)=some (if L.any bad=true then .inr r else .inl ((L.map f).any (fun k=>decide (0 < k)),(L.map f).any (fun k=>decide (k < 0)),L.map f,(L.length:Int))):=by
 have all:∀ (zs:List (List Int)) (i:Nat),L.drop i=zs->i<=L.length->lpO B ((((L.take i).map f).any fun k=>decide (0 < k)),(((L.take i).map f).any fun k=>decide (k < 0)),(L.take i).map f,(i:Int))=some (if zs.any bad=true then .inr r else .inl ((L.map f).any (fun k=>decide (0 < k)),(L.map f).any (fun k=>decide (k < 0)),L.map f,(L.length:Int))):=by
  intro zs
  induction zs with
  | nil =>
   intro i e hi;have:i=L.length:=by have:=congrArg List.length e;simp at this;omega
   subst this;rw[zB (hn _ _ _)];simp
  | cons q zs ih =>
   intro i e hi;have hx:L[i]? = some q:=(by have:=congrArg (fun l=>l[0]?) e;simpa using this);have hil:i < L.length:=(Ac.1 hx).1;have hs:=step i q (((L.take i).map f).any fun k=>decide (0 < k)) (((L.take i).map f).any fun k=>decide (k < 0)) ((L.take i).map f) hx (by simp;omega);cases hv:bad q with
   | true =>rw[if_pos hv] at hs;rw[qL hs];simp[hv]
   | false =>rw[if_neg (by simp[hv])] at hs;have:=ih (i+1) (by rw[← List.drop_drop,e];simp) (by omega);rw[Bo,hx] at this;simp only[Option.toList,Bb,Ar,Bc,List.any_append,Ch,List.any_nil,Bool.or_false,CP,Int.natCast_one] at this;rw[zZ hs];rw[this];simp[hv]
 have:=all L 0 rfl (by omega);simpa using this
def P382_eq (hl:Lst Entry.gd l) (hp:p.length<=9223372036854775807):P382 o l p n=some ((zcH o l p n).1,zm (zcH o l p n).2):=by
 unfold P382 S382;simp only[P349_eq hl,zk,zF,P127_eq o p hp];unfold zcH;by_cases hc:zgM o l=0
 case neg=>rw[if_neg hc];simp[hc]
 rw[if_pos hc];have aY:EntsOk o l:=ents_ok.1 (by unfold zgM at hc;split at hc<;>first | exact hc | (rename_i g;exact absurd hc g))
 have he:qW o p=wg o p:=by unfold qW;rw[if_pos (wD.2 aY.out)]
 by_cases hf:wg o p=0
 case neg =>
  rw[if_neg hf];simp[hc,he,hf,zm]
 have fit:=zbs.1 hf;have kG:qW o p=0:=by rw[he];exact hf
 have hlf:=leaf_len aY.out fit;rw[if_pos hf,if_pos kG];simp only[hc,decide_true,A8,za,yO];by_cases h0:(zJ o p).length=0
 ·simp[h0,zm]
 simp only[show ¬ (((zJ o p).length:Int)=0) by omega,decide_false,za,qe,h0,false_or];have wl:=was_loop (B:=zfA P111 P57 o l p (zJ o p,Err.nil)) (zJ o p) (wasL l) (fun q => !decide ((pwR (zfK o p q)).1=1)) (([]:List Edit),Err.no 3) hlf (fun i q a b w hq hw=>by
  have hi:=(Ac.1 hq).1;obtain ⟨f1,f2,f3⟩:=leaf_in aY.out fit (Ad hq);have kF:q.length<=9223372036854775807:=by rw[f1.len,← fit.len];exact hp
  have hqe:qW o q=0:=zcl.2 ⟨aY.out,f1⟩;simp only[zfA,show (i:Int) < ((zJ o p).length:Int) by omega,decide_true,zh,zi,hq,zk,P111_eq o p q hp kF,if_pos kG,if_pos hqe,f2,f3,CF,if_true,yO,A8,za];by_cases nV:(pwR (zfK o p q)).1=1
  ·simp only[nV,not_true,decide_false,za,decide_true,A8,if_false,P57_eq (ris_of aY.rise) hl kF,zk];have cD:w.length+1<=zX:=by unfold zX;omega
   have hwi:wi ((i:Int)+1)=(i:Int)+1:=zN (by omega) (by omega);cases a<;>cases b<;>simp[wasL,cD,hwi]<;>first | rfl | exact ⟨rfl,rfl⟩ | congr | exact ⟨by congr,by congr⟩
  ·simp[nV]) (fun a b w=>by simp[zfA])
 rw[wl];by_cases eZ:(zJ o p).any (fun q => !decide ((pwR (zfK o p q)).1=1))=true
 ·rw[if_pos eZ,if_pos eZ,jn_r];simp[zm]
 rw[if_neg eZ,if_neg eZ,z8];by_cases mX:60 < (zJ o p).length
 ·simp[mX,show (60:Int) < ((zJ o p).length:Int) by omega,zm]
 rw[if_neg mX];simp only[show ¬ (60:Int) < ((zJ o p).length:Int) by omega,decide_false,za,P384_eq,zk];generalize nZ:((zJ o p).map (wasL l)).any (fun k=>decide (0 < k))=sm;generalize oo:((zJ o p).map (wasL l)).any (fun k=>decide (k < 0))=ls;generalize hr:(if sm=true∧ls=false then zdW n ((zJ o p).map (wasL l)) else dA n (zJ o p).length)=r
 have n7:r.2=0->r.1.length=(zJ o p).length:=by
  intro h;subst hr;by_cases oH:sm=true∧ls=false
  ·rw[if_pos oH] at h ⊢;rw[likeR_len h,An]
  ·rw[if_neg oH] at h ⊢;exact evenR_len h
 have iz:∀ {α:Type} (K:Err×List Int->Option α),(jn (σ:=Bool) (α:=α) (br sm (zt (some (!ls))) (zt (some false))) fun aT =>
   jn (σ:=Err×List Int) (α:=α) (br aT (bno (P386 n ((zJ o p).map (wasL l))) fun cH=>zt (some (cH.2,cH.1))) (zt (some (zm (dA n (zJ o p).length).2,(dA n (zJ o p).length).1)))) K)=K (zm r.2,r.1):=by
  intro α K;subst hr;cases sm<;>cases ls<;>simp[P386_eq]
 rw[iz];simp only[zF];by_cases hz:r.2=0
 case neg=>simp[hz]
 have n7:=n7 hz;simp only[hz,decide_true,A8,za,if_true,qe];have hs:=qr (B:=zfz (zJ o p,Err.nil) (zm 0,r.1)) (fun i=>((cS (zJ o p) r.1).take i,(i:Int))) (zJ o p).length (fun i hi=>by
  have g1:=Aa hi;have g2:=Aa (show i < r.1.length by omega);simp only[zfz,show (i:Int) < ((zJ o p).length:Int) by omega,decide_true,zh,zi,g1,g2,zk];rw[zy (by simp[zjl];omega),zjA g1 g2,zN (by omega) (by omega)]
  rfl)
 have h0:=hs.trans (zB (y:=((cS (zJ o p) r.1).take (zJ o p).length,((zJ o p).length:Int))) (by simp[zfz]));rw[show (([]:List Edit),(0:Int))=((cS (zJ o p) r.1).take 0,((0:Nat):Int)) by simp,h0,z8];rw[BG (by simp[cS];omega)];rfl
end
end
end Ab
