/-
  Plain law: SpreadSums answers true.
-/
import Derived.Test.YtkaifdgeigdbhaaGreatDoorW375
import Derived.Test.YtkaifdgeigdbhaaGreatDoorS4
open List (sum_nil)
set_option linter.all false
namespace Ab
open Go
def zgH {o:List Dim} {l:List Entry} {p:List Int} {n:Int} (h:(jb o l p n).2=0) :
  ∃ r:List Int,(jb o l p n).1=yh (zm o p) r∧r.length=(zm o p).length∧r.sum=n∧(∀ k∈r,0<=k)∧0<=n∧n<=1000000∧EntsOk o l∧Fit o p∧0 < (zm o p).length∧(zm o p).length<=60∧∀ q∈zm o p,(pwR (zbG o p q)).1=1:=by
 unfold jb at h ⊢;by_cases hc:zhw o l=0
 case neg=>rw[if_neg hc] at h;exact absurd h hc
 rw[if_pos hc] at h ⊢;by_cases hf:jB o p=0
 case neg=>rw[if_neg hf] at h;exact absurd h hf
 rw[if_pos hf] at h ⊢;have aQ:EntsOk o l:=gq.1 (by unfold zhw at hc;split at hc<;>first | exact hc | (rename_i g;exact absurd hc g))
 by_cases h3:(zm o p).length=0∨(zm o p).any (fun q => !decide ((pwR (zbG o p q)).1=1))=true
 ·rw[if_pos h3] at h;cases h
 rw[if_neg h3] at h ⊢;obtain ⟨h31,h32⟩:=not_or.1 h3;by_cases fZ:60 < (zm o p).length
 ·rw[if_pos fZ] at h;cases h
 rw[if_neg fZ] at h ⊢;simp only at h ⊢;have hw:∀ q∈zm o p,(pwR (zbG o p q)).1=1:=fun q hq=>(by have:=h32;simp only[B0,not_exists,not_and] at this;simpa using this q hq);obtain ⟨r,hr⟩:∃ r,(if ((zm o p).map (zbH l)).any (fun k=>decide (0 < k))=true∧((zm o p).map (zbH l)).any (fun k=>decide (k < 0))=false then yb n ((zm o p).map (zbH l)) else wT n (zm o p).length)=r:=⟨_,rfl⟩
 rw[hr] at h ⊢;by_cases hz:r.2=0
 case neg=>rw[if_neg hz] at h;exact absurd h hz
 rw[if_pos hz];have facts:r.1.length=(zm o p).length∧r.1.sum=n∧(∀ k∈r.1,0<=k)∧0<=n∧n<=1000000:=by
  subst hr;split at hz
  ·rename_i c;rw[if_pos c];have hE:zeI n ((zm o p).map (zbH l))=0:=by
    unfold yb at hz;split at hz
    ·rename_i g;exact g
    ·exact hz
   have sh:=pj (zaX.1 hE);refine ⟨by rw[sh.len];simp,sh.sum,fun k hk => ?_,(zaX.1 hE).n0.1,(zaX.1 hE).n0.2⟩;obtain ⟨i,hi,rfl⟩:=Bx hk;exact (sh.part i _ _ (Aa hi) (Aa (by rw[← sh.len];exact hi))).1
  ·rename_i c;rw[if_neg c];unfold wT at hz ⊢;split at hz
   ·rename_i g;rw[if_pos g];have hn:=ju.1 g.1;simp only[AH];exact ⟨qF _ _,zjl (by omega) hn.1,zfU hn.1,hn.1,hn.2⟩
   ·cases hz
 exact ⟨r.1,rfl,facts.1,facts.2.1,facts.2.2.1,facts.2.2.2.1,facts.2.2.2.2,aQ,ye.1 hf,by omega,by omega,hw⟩
def back_roll {o:List Dim} {l:List Entry} {p:List Int} {n:Int} (h:(jb o l p n).2=0) :
  zcO o l=0∧(zkv o l (jb o l p n).1).2.2=0∧EntsOk o (zkv o l (jb o l p n).1).1∧Fit o p∧zcF o (zkv o l (jb o l p n).1).1 p=(1,n)∧within n=true:=by
 obtain ⟨r,r1,r2,r3,r4,n0,n1,aQ,fit,l0,l60,hw⟩:=zgH h;have he:=gq.2 aQ;have hrv:∀ k∈r,wS k=true:=fun k hk=>(by have h1:=r4 k hk;have h2:=(wt r4).2 k hk;simp only[wS,Am,decide_eq_true_eq];omega);have hq:∀ q∈zm o p,jB o q=0∧yw o q=true:=fun q hq=>(by obtain ⟨a,b,_⟩:=zdH aQ.out fit hq;exact ⟨ye.2 a,b⟩);have el:(yh (zm o p) r).length=(zm o p).length:=by simp[yh];omega
 obtain ⟨a1,a2,a3⟩:=ed_all (zm o p) r l 0 r2.symm (pg aQ.out fit) hq hrv;have hall:zkv o l (jb o l p n).1=edL o l (yh (zm o p) r) 0:=(by unfold zkv;rw[r1,if_neg (by rw[el];omega),if_pos he]);rw[hall];have gu:=(ed_ok (o:=o) (xs:=yh (zm o p) r) (l:=l) (i:=0) aQ).1 a1;refine ⟨he,a1,gu,fit, ?_, ?_⟩
 ·obtain ⟨b1,_,_⟩:=roll_sum gu.out fit hw gu.ris (fun e hm=>⟨gu.fit e hm,gu.leaf e hm,gu.val e hm⟩) gu.len;have mY:(zm o p).map (zbH (edL o l (yh (zm o p) r) 0).1)=r:=by
   refine CN fun i => ?_;by_cases hi:i < (zm o p).length
   ·have hk:=Aa (show i < r.length by omega);have g:=a2 i _ _ (Aa hi) hk;rw[Au,Aa hi,hk];simp[zbH,g,cellL]
   ·rw[Bo (by simp;omega),Bo (by omega)]
  rw[b1,mY,r3];have hg:=a2 0 _ _ (Aa l0) (Aa (show 0 < r.length by omega));obtain ⟨e,e1,e2⟩:=zdb hg;rw[if_pos (B0.2 ⟨e,e1,by rw[decide_eq_true_eq,e2];exact Az l0⟩)]
 ·unfold within;simp only[Am,decide_eq_true_eq];omega
def fA:P384 7 3=some ([3,2,2],.nil):=by rw[ziN];rfl
def p375 (n parts:Int) (w:List Int) (hw:w.length<=9223372036854775807) (o:List Dim) (l:List Entry) (hl:Lst Entry.gd l) (p:List Int) (hp:p.length<=9223372036854775807):P375 n parts w o l p=some true:=by
 unfold P375 S375;simp only[fA,zj,ya,AU,za];have f1:((List.length ([3,2,2]:List Int):Nat):Int)=3:=rfl;have f2:zB ([3,2,2]:List Int) 0=some 3:=rfl;have f3:zB ([3,2,2]:List Int) 2=some 2:=rfl;simp only[f1,f2,f3,not_true,decide_false,za,zj,zA,zV,ziN n parts,zt]
 -- even parts
 have ev:∀ (K:Unit->Option Bool),(jn (σ:=Unit) (α:=Bool) (br (decide ((wT n parts).2=0))
   (lp (zeo ((wT n parts).1,zk (wT n parts).2)) ((0:Int),(0:Int)) fun bk =>
    jn (σ:=Bool) (α:=(Sum Unit Bool)) (br (decide (¬ bk.1=n)) (some (.inl true)) (some (.inl (decide (¬ ((List.length (wT n parts).1:Nat):Int)=parts))))) fun iu =>
    br iu (zcy (some false)) (some (.inl ()))) (some (.inl ()))) K)=K ():=by
  intro K;by_cases he:(wT n parts).2=0
  case neg=>rw[decide_eq_false he,za,zV]
  rw[decide_eq_true he,zh];unfold wT at he ⊢;split at he
  case isFalse=>cases he
  rename_i g;obtain ⟨m,rfl⟩:∃ m:Nat,parts=m:=⟨parts.toNat,by omega⟩;have hm:1<=m∧m<=60:=by omega
  have hn:=ju.1 g.1;rw[if_pos g];simp only[AH,z7];obtain ⟨_,_,q0,q1⟩:=zjm g.1 hm;have dv:=Cf n (show (m:Int)≠0 by omega);have hs:=qe (B:=zeo (qL n m,zk 0)) (fun i=>(((qL n m).take i).sum,(i:Int))) m (fun i hi=>by
   have gi:=zby (n:=n) hi;have g0:=zby (n:=n) (show 0 < m by omega);have st:=wB _ i _ gi;have et:=zdQ (n:=n) (m:=m) (by omega) hn.1 i (by omega);have tb:=(wt (l:=(qL n m).take i) fun x hx=>zfU hn.1 x (Bg hx)).1;have tb2:((qL n m).take i).sum<=60000060:=by
    have h1:=zcl (l:=(qL n m).take i) (M:=1000001) fun x hx=>by
     have h2:=zfU hn.1 x (Bg hx);obtain ⟨j,hj,rfl⟩:=Al.1 (Bg hx);refine ⟨h2, ?_⟩
     split<;>omega
    have h3:(((qL n m).take i).length:Int)<=60:=by
     have:((qL n m).take i).length<=60:=by simp[qF];omega
     omega
    omega
   have cC:zB (qL n m) (0:Int)=some (n / (m:Int)+if ((0:Nat):Int) < n % (m:Int) then 1 else 0):=(zi (xs:=qL n m) 0).trans g0;simp only[zeo,qF,show (i:Int) < (m:Int) by omega,decide_true,zh,zi,gi,cC,zj];rw[st];have c1:¬ (n / (m:Int)+if ((0:Nat):Int) < n % (m:Int) then 1 else 0) < (n / (m:Int)+if (i:Int) < n % (m:Int) then 1 else 0):=by split<;>split<;>omega
   have c2:¬ (1:Int) < wi ((n / (m:Int)+if ((0:Nat):Int) < n % (m:Int) then 1 else 0) - (n / (m:Int)+if (i:Int) < n % (m:Int) then 1 else 0)):=by
    rw[zN (by split<;>split<;>omega) (by split<;>split<;>omega)]
    split<;>split<;>omega
   rw[decide_eq_false c1,za,decide_eq_false c2,zA,zV,za,j9,zN (by split<;>omega) (by split<;>omega),zN (by omega) (by omega)]
   rfl)
  have h0:=hs.trans (zE (y:=(((qL n m).take m).sum,(m:Int))) (by simp[zeo,qF]));have hf:(qL n m).take m=qL n m:=Bf (by rw[qF];exact AF _);rw[hf,zjl (by omega) hn.1] at h0;simp only[BL,sum_nil] at h0;rw[show ((0:Int),(0:Int))=((0:Int),((0:Nat):Int)) from rfl,h0,zV];simp only[not_true,decide_false,za,zV,qF]
 rw[ev];simp only[P386_eq n w,zj,zt]
 -- by weights
 have lk:∀ (K:Unit->Option Bool),(jn (σ:=Unit) (α:=Bool) (br (decide ((yb n w).2=0))
   (br (decide (¬ ((List.length (yb n w).1:Nat):Int)=((List.length w:Nat):Int))) (zcy (some false))
    (lp (zen w ((yb n w).1,zk (yb n w).2)) ((0:Int),(0:Int),(0:Int)) fun eV =>
    lp (zem n w ((yb n w).1,zk (yb n w).2) eV) (0:Int) fun x28 =>
    br (decide (¬ eV.1=n)) (zcy (some false)) (some (.inl ())))) (some (.inl ()))) K)=K ():=by
  intro K;by_cases he:(yb n w).2=0
  case neg=>rw[decide_eq_false he,za,zV]
  rw[decide_eq_true he,zh];have hE:zeI n w=0:=by
   unfold yb at he;split at he
   ·rename_i g;exact g
   ·exact he
  have lok:=zaX.1 hE;have sh:=pj lok;have l1:=lok.l1;obtain ⟨s1,s2⟩:=lok.spos;have hn:=lok.n0;obtain ⟨r,hr⟩:∃ r,(yb n w).1=r:=⟨_,rfl⟩;rw[hr] at sh ⊢;have iE:=sh.len;rw[decide_eq_false (by rw[iE];simp),za];have pV:∀ x∈r,0<=x∧x<=1000000:=fun x hx=>(by obtain ⟨i,hi,rfl⟩:=Bx hx;have:=sh.part i _ _ (Aa hi) (Aa (show i < w.length by omega));omega);have bnd:∀ (u:List Int) (i:Nat),(∀ x∈u,0<=x∧x<=1000000)->u.length<=60->0<=(u.take i).sum∧(u.take i).sum<=60000000:=fun u i hu hul=>by
   have h1:=zcl (l:=u.take i) (M:=1000000) fun x hx=>hu x (Bg hx);have h3:((u.take i).length:Int)<=60:=by
    have:(u.take i).length<=60:=by simp;omega
    omega
   omega
  have hs:=qe (B:=zen w (r,zk (yb n w).2)) (fun i=>((r.take i).sum,(w.take i).sum,(i:Int))) w.length (fun i hi=>by
   have g1:=Aa (show i < r.length by omega);have g2:=Aa hi;have b1:=bnd r (i+1) pV (by omega);have b2:=bnd w (i+1) lok.wv l1;rw[wB _ i _ g1] at b1;rw[wB _ i _ g2] at b2;simp only[zen,show (i:Int) < ((List.length r:Nat):Int) by omega,decide_true,zh,zi,g1,g2,zj,j9];rw[wB _ i _ g1,wB _ i _ g2,zN (by omega) (by omega),zN (by omega) (by omega),zN (by omega) (by omega)]
   rfl)
  have h0:=hs.trans (zE (y:=((r.take w.length).sum,(w.take w.length).sum,(w.length:Int))) (by simp[zen,iE]));have kQ:r.take w.length=r:=Bf (by omega);rw[kQ,BJ,sh.sum] at h0;simp only[BL,sum_nil] at h0;rw[z7,show ((0:Int),(0:Int),(0:Int))=((0:Int),(0:Int),((0:Nat):Int)) from rfl,h0,zV];have h3:=wo (B:=zem n w (r,zk (yb n w).2) (n,w.sum,(w.length:Int))) w.length (fun _=>none) (fun i hi=>by
   have g1:=Aa (show i < r.length by omega);have g2:=Aa hi;obtain ⟨p1,p2,p3,p4⟩:=sh.part i _ _ g1 g2;have m1:0<=r[i]'(by omega) * w.sum∧r[i]'(by omega) * w.sum<=60000000000000:=(by have:=pV (r[i]'(by omega)) (Az _);refine ⟨Int.mul_nonneg p1 (by omega), ?_⟩;have:=Int.mul_le_mul this.2 s2 (by omega) (by omega);omega);have m2:=lok.prod (Az hi);simp only[zem,show (i:Int) < ((List.length r:Nat):Int) by omega,decide_true,zh,zi,g1,g2,zj];rw[decide_eq_false (show ¬ r[i]'(by omega) < 0 by omega),za,decide_eq_false (show ¬ n < r[i]'(by omega) by omega),zA,zV,za];rw[zN (n:=r[i]'(by omega) * w.sum) (by omega) (by omega),zN (n:=n * w[i]) (by omega) (by omega),zN (n:=r[i]'(by omega) * w.sum - n * w[i]) (by omega) (by omega),zN (n:=0 - w.sum) (by omega) (by omega)];rw[decide_eq_false (show ¬ r[i]'(by omega) * w.sum - n * w[i]<=0 - w.sum by omega),za,decide_eq_false (show ¬ w.sum<=r[i]'(by omega) * w.sum - n * w[i] by omega),zA,zV,za,j9,zN (by omega) (by omega)]) (by simp[zem,iE])
  have nI:(List.range w.length).findSome? (fun _=>(none:Option (Sum Unit Bool)))=none:=BA.2 fun _ _=>rfl;rw[z7,h3,nI,zV];simp only[not_true,decide_false,za,zV]
 rw[lk]
 -- at a place
 simp only[P382_eq hl hp,zj,zt];by_cases hz:(jb o l p n).2=0
 case neg=>rw[decide_eq_false hz,BQ,zh]
 rw[decide_eq_true hz,AU,za];obtain ⟨b1,b2,b3,b4,b5,b6⟩:=back_roll hz;have kN:Lst Edit.gd (jb o l p n).1:=by
  obtain ⟨r,r1,r2,r3,r4,n0,n1,aQ,fit,l0,l60,mZ⟩:=zgH hz;rw[r1];refine ⟨by simp[yh];omega,fun e he => ?_⟩;obtain ⟨i,hi,rfl⟩:=Bx he;simp[yh] at hi;simp only[yh,List.getElem_zipWith];obtain ⟨f1,f2,f3⟩:=zdH aQ.out fit (Az (l:=zm o p) (n:=i) (by omega));have fS:=r4 _ (Az (l:=r) (n:=i) (by omega));have cx:=(wt r4).2 _ (Az (l:=r) (n:=i) (by omega));refine ⟨⟨?_,fun x hx => ?_⟩, ?_⟩
  ·show List.length _<=_;rw[f1.len,← fit.len];exact hp
  ·obtain ⟨j,hj,rfl⟩:=Bx hx;have l9:j < o.length:=by rw[← f1.len];exact hj
   have:=f1.mem j _ _ (Aa hj) (Aa l9);have hd:=aQ.out.dm _ (Az l9)
   constructor<;>omega
  ·constructor<;>simp only<;>omega
 rw[P112_eq hl kN,zj];have cp:Lst Entry.gd (zkv o l (jb o l p n).1).1:=all_gd;rw[P110_eq cp hp,zj,if_pos (gq.2 b3),if_pos (ye.2 b4)];simp only[b2,b5,zt,decide_true,zh,ya,P8_eq,zj,gh,b6];simp
end Ab
