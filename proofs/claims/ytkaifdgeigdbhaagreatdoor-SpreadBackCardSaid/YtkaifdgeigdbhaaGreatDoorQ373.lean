/-
  Plain law: SpreadBack answers true.
-/
import Derived.Test.YtkaifdgeigdbhaaGreatDoorW373
import Derived.Test.YtkaifdgeigdbhaaGreatDoorS2
import Derived.Test.YtkaifdgeigdbhaaGreatDoorS3
set_option linter.all false
namespace Ab
open Go
def dX (n:Nat):List Dim:=[dH ⟨#[120]⟩ n]
def ziP:(List.range 10).all (fun n=>n == 0 || (decide ((qS (dX n)).2.2=0) && decide (wg (dX n) [0]=0) && decide (zJ (dX n) [0]=(List.range n).map fun (i:Nat)=>[(1+i:Int)]) && (List.range n).all fun (i:Nat)=>decide ((pwR (zfK (dX n) [0] [(1+i:Int)])).1=1) && wH (dX n) [(1+i:Int)] && decide (wg (dX n) [(1+i:Int)]=0)))=true:=by decide+kernel
def dX_plain (n:Nat):noForm (dX n):=by intro d hd m hm;obtain rfl:=Ah.1 hd;simp only[dH,Ap,Am] at hm;rcases hm with rfl | ⟨i,_,rfl⟩<;>rfl
def esF:Nat->List Int->List Entry
 | _,[]=>[]
 | s,k :: ks=>⟨[(1+s:Int)],k⟩ :: esF (s+1) ks
def wN:∀ (ks:List Int) (s:Nat),(esF s ks).length=ks.length
 | [],_=>rfl
 | k :: ks,s=>by simp[esF,wN ks]
def zbu:∀ (ks:List Int) (s i:Nat) (k:Int),ks[i]? = some k->(esF s ks)[i]? = some ⟨[(1+(s+i:Nat):Int)],k⟩
 | [],_,_,_,h=>by simp at h
 | a :: ks,s,0,k,h=>by simp at h;subst h;simp[esF]
 | a :: ks,s,i+1,k,h=>by
  have:=zbu ks (s+1) i k (by simpa using h);rw[show s+1+i=s+(i+1) by omega] at this;simpa[esF] using this
def ziH:∀ (ks:List Int) (s:Nat) (k:Int),esF s (ks++[k])=esF s ks++[⟨[(1+(s+ks.length:Nat):Int)],k⟩]
 | [],s,k=>by simp[esF]
 | a :: ks,s,k=>by
  simp only[AA,esF,ziH ks (s+1) k,Au];rw[show s+1+ks.length=s+(ks.length+1) by omega]
def zhU (a b:Int):cmpL [a] [b]=if a < b then -1 else if b < a then 1 else 0:=by simp only[cmpL]
def ziI:∀ (ks:List Int) (s j:Nat),getL (esF s ks) [(1+(s+j:Nat):Int)]=ks[j]?
 | [],s,j=>by simp[esF,getL]
 | a :: ks,s,0=>by simp[esF,getL,zhU]
 | a :: ks,s,j+1=>by
  have:=ziI ks (s+1) j;rw[show s+1+j=s+(j+1) by omega] at this;simp only[esF,getL,zhU,show (1+(s:Int)) < 1+((s+(j+1):Nat):Int) by omega,if_true];simpa using this
section
variable {n:Nat} (h0:0 < n) (h9:n<=9) {ks:List Int} (hk:ks.length=n) (hv:∀ k∈ks,0<=k∧k<=100000)
include h0 h9 hk hv
def dX_ents:EntsOk (dX n) (esF 0 ks):=by
 have f:=Af.1 ziP n (AR.2 (by omega));simp only[show (n == 0)=false by simp;omega,Bool.false_or,Al,decide_eq_true_eq] at f;obtain ⟨⟨⟨f1,f2⟩,f3⟩,f4⟩:=f;have ok:=wD.1 f1;have each:∀ e∈esF 0 ks,∃ (i:Nat) (k:Int),i < n∧ks[i]? = some k∧e=⟨[(1+i:Int)],k⟩:=(by intro e he;obtain ⟨i,hi,rfl⟩:=Bw he;rw[wN] at hi;have g:=zbu ks 0 i ks[i] (Aa hi);rw[Aa (by rw[wN];exact hi)] at g;exact ⟨i,ks[i],by omega,Aa hi,by simpa using g⟩);have pt:∀ i:Nat,i < n->wH (dX n) [(1+i:Int)]=true∧wg (dX n) [(1+i:Int)]=0:=fun i hi=>(by have:=Af.1 f4 i (AR.2 hi);simp only[Al,decide_eq_true_eq] at this;exact ⟨this.1.2,this.2⟩);refine ⟨ok,fun e he => ?_,fun e he => ?_,fun e he => ?_,fun i a b ha hb => ?_⟩
 ·obtain ⟨i,k,hi,_,rfl⟩:=each e he;exact zbs.1 (pt i hi).2
 ·obtain ⟨i,k,hi,_,rfl⟩:=each e he;exact (pt i hi).1
 ·obtain ⟨i,k,hi,bu,rfl⟩:=each e he;have:=hv k (Ad bu);simp only[zcB,Al,decide_eq_true_eq];omega
 ·have l1:=(Ac.1 hb).1;rw[wN] at l1;have ga:=zbu ks 0 i ks[i] (Aa (by omega));have gb:=zbu ks 0 (i+1) ks[i+1] (Aa l1);rw[ha] at ga;rw[hb] at gb;cases ga;cases gb;simp only[zhU];rw[if_pos (by omega)];omega
def back_eq:zcH (dX n) (esF 0 ks) [0] ks.sum=(cS ((List.range n).map fun (i:Nat)=>[(1+i:Int)]) ks,0):=by
 have f:=Af.1 ziP n (AR.2 (by omega));simp only[show (n == 0)=false by simp;omega,Bool.false_or,Al,decide_eq_true_eq] at f;obtain ⟨⟨⟨f1,f2⟩,f3⟩,f4⟩:=f;have en:=dX_ents h0 h9 hk hv;have cu:zgM (dX n) (esF 0 ks)=0:=(by unfold zgM;rw[if_pos (allE_zero.2 (zjC (wD.1 f1) (dX_plain n)))];exact ents_ok.2 en);have was:((List.range n).map fun (i:Nat)=>[(1+i:Int)]).map (wasL (esF 0 ks))=ks:=by
  refine CA fun i => ?_;by_cases hi:i < n
  ·have:=ziI ks 0 i;simp only[A3] at this;rw[Aa (show i < ks.length by omega)] at this;simp[hi,wasL,this,cellL,show i < ks.length by omega]
  ·rw[Ba (by simp;omega),Ba (by omega)]
 unfold zcH;rw[if_pos cu,if_pos f2,f3];have na:(((List.range n).map fun (i:Nat)=>[(1+i:Int)]).any (fun q => !decide ((pwR (zfK (dX n) [0] q)).1=1)))=false:=(by rw[Cd];intro q hq;obtain ⟨i,hi,rfl⟩:=Am.1 hq;have:=Af.1 f4 i hi;simp only[Al,decide_eq_true_eq] at this;simp[this.1.1]);rw[if_neg (by rw[na];simp;omega),if_neg (by simp;omega)];simp only[was];have mc:ks.any (fun k=>decide (k < 0))=false:=(by rw[Cd];intro k bu;have:=hv k bu;simp;omega);have hb:=zcF hv;have parts:(if ks.any (fun k=>decide (0 < k))=true∧ks.any (fun k=>decide (k < 0))=false then zdW ks.sum ks else dA ks.sum ((List.range n).map fun (i:Nat)=>[(1+i:Int)]).length)=(ks,0):=by
  by_cases hp:ks.any (fun k=>decide (0 < k))=true
  ·rw[if_pos ⟨hp,mc⟩];have spos:0 < ks.sum:=by
    obtain ⟨k,fZ,bu⟩:=BU.1 hp;simp only[decide_eq_true_eq] at bu;have mem_le:∀ (l:List Int),(∀ x∈l,0<=x)->k∈l->k<=l.sum:=by
     intro l
     induction l with
     | nil=>intro _ h;simp at h
     | cons a l ih =>
      intro hl hm;have h1:=(zcF (l:=l) (M:=l.sum+1000000000) ?_).1
      ·rcases Ap.1 hm with rfl | hm
       ·simp only[B6];omega
       ·have:=ih (fun x hx=>hl x (by simp[hx])) hm;have:=hl a (by simp);simp only[B6];omega
      ·intro x hx;refine ⟨hl x (by simp[hx]), ?_⟩;have:∀ (l:List Int),(∀ x∈l,0<=x)->∀ x∈l,x<=l.sum∧0<=l.sum:=by
        intro l
        induction l with
        | nil=>intro _ x hx;simp at hx
        | cons b l ih =>
         intro hl x hx;have hbn:=hl b (by simp);rcases Ap.1 hx with rfl | hx
         ·cases l with
          | nil=>simp;omega
          | cons c l=>have:=ih (fun x hx=>hl x (by simp[hx])) c (by simp);simp only[B6] at this ⊢;omega
         ·have:=ih (fun x hx=>hl x (by simp[hx])) x hx;simp only[B6];omega
       have:=this l (fun x hx=>hl x (by simp[hx])) x hx;omega
    have:=mem_le ks (fun x hx=>(hv x hx).1) fZ;omega
   have lok:LikeOk ks.sum ks:=⟨by omega,by omega,by omega,fun x hx=>by have:=hv x hx;omega,by omega⟩;have fl:flo ks.sum ks=ks:=by
    unfold flo
    conv=>rhs;rw[← List.map_id ks]
    refine Aj fun x _ => ?_;exact Int.mul_ediv_cancel_left x (by omega)
   unfold zdW;rw[if_pos (zhE.2 lok)];unfold dJ;rw[fl,Int.sub_self];rfl
  ·rw[if_neg (fun c=>hp c.1)];have z:∀ k∈ks,k=0:=fun k bu=>(by have h1:=hv k bu;have h2:¬ 0 < k:=fun c=>hp (BU.2 ⟨k,bu,by simpa using c⟩);omega);have ez:ks=List.replicate n 0:=List.eq_replicate_iff.2 ⟨hk,z⟩;have s0:ks.sum=0:=by rw[ez];simp
   rw[s0];simp only[An,Bp];unfold dA;rw[if_pos ⟨by decide,by omega,by omega⟩,AG];refine Prod.ext ?_ rfl;rw[ez];refine CA fun i => ?_;by_cases hi:i < n
   ·rw[zgD hi];simp[hi];omega
   ·rw[Ba (by rw[wM];omega),Ba (by simp;omega)]
 rw[parts];rfl
end
def p373 (n:Int) (l:List Int) (hl:l.length<=9223372036854775807):P373 n l=some true:=by
 unfold P373 S373;by_cases h1:n < 1
 ·simp[h1]
 by_cases h2:9 < n
 ·simp[h1,h2]
 obtain ⟨m,rfl⟩:∃ m:Nat,n=m:=⟨n.toNat,by omega⟩;have h0:0 < m:=by omega
 have h9:m<=9:=by omega
 simp only[h1,h2,decide_false,za,zx,z8,P50_eq _ m (by omega),zk,qe]
 -- the numbers
 obtain ⟨kf,kJ⟩:∃ kf:Nat->Int,kf=fun i=>l.getD i 0:=⟨_,rfl⟩
 have loop:∀ (j i:Nat),i+j=m->(∀ t,t < i->0<=kf t∧kf t<=100000) ->
   (∃ r:Sum _ Bool,lpO (zaE (m:Int) l) (esF 0 ((List.range i).map kf),((List.range i).map kf).sum,(i:Int))=some r∧(r=.inr true∨((∀ t,t < m->0<=kf t∧kf t<=100000)∧r=.inl (esF 0 ((List.range m).map kf),((List.range m).map kf).sum,(m:Int))))):=by
  intro j
  induction j with
  | zero =>
   intro i e hb;obtain rfl:i=m:=by omega
   exact ⟨_,zB (y:=(esF 0 ((List.range i).map kf),((List.range i).map kf).sum,(i:Int))) (by simp[zaE]),.inr ⟨hb,rfl⟩⟩
  | succ j ih =>
   intro i e hb;have hx:∀ {α:Type} (K:Int->Option α),(jn (σ:=Int) (α:=α) (br (decide ((i:Int) < ((List.length l:Nat):Int))) (bno (zA l (i:Int)) fun y4=>zt (some y4)) (zt (some (0:Int)))) K)=K (kf i):=by
    intro α K;by_cases hi:i < l.length
    ·rw[decide_eq_true (by omega),zh,zi,Aa hi];simp[kJ,List.getD,hi]
    ·rw[decide_eq_false (by omega),za];simp[kJ,List.getD,hi,Ba (show l.length<=i by omega)]
   have dO:=zcF (l:=(List.range i).map kf) (M:=100000) fun x hx=>(by obtain ⟨t,ht,rfl⟩:=Am.1 hx;exact hb t (AR.1 ht));simp only[An,Bp] at dO;by_cases c1:kf i < 0
   ·exact ⟨.inr true,qL (by simp only[zaE,show (i:Int) < (m:Int) by omega,decide_true,zh,hx];simp[c1]),.inl rfl⟩
   by_cases c2:100000 < kf i
   ·exact ⟨.inr true,qL (by simp only[zaE,show (i:Int) < (m:Int) by omega,decide_true,zh,hx];simp[c1,c2]),.inl rfl⟩
   have hB:zaE (m:Int) l (esF 0 ((List.range i).map kf),((List.range i).map kf).sum,(i:Int))=some (.nx (esF 0 ((List.range (i+1)).map kf),((List.range (i+1)).map kf).sum,((i+1:Nat):Int))):=(by simp only[zaE,show (i:Int) < (m:Int) by omega,decide_true,zh,hx];simp only[c1,c2,decide_false,za,zx,z8];rw[zy (by simp[wN,zX];omega),zN (by omega) (by omega),zN (by omega) (by omega),zN (by omega) (by omega),BW,Bb,Ar,Bc,ziH];simp);rw[zZ hB];exact ih (i+1) (by omega) fun t ht=>by
    rcases BC (show t<=i by omega) with g | g
    ·exact hb t g
    ·rw[g];omega
 obtain ⟨r,r1,r2⟩:=loop m 0 (by omega) (fun t ht=>by omega);simp only[List.range_zero,Bc,esF,List.sum_nil] at r1;rw[show (([]:List Entry),(0:Int),(0:Int))=([],0,((0:Nat):Int)) from rfl,r1];rcases r2 with rfl | ⟨hv,rfl⟩
 ·rfl
 rw[z8];obtain ⟨ks,bJ⟩:∃ ks,ks=(List.range m).map kf:=⟨_,rfl⟩;have eW:ks.length=m:=by rw[bJ];simp
 have ou:∀ k∈ks,0<=k∧k<=100000:=fun k hk=>(by rw[bJ] at hk;obtain ⟨t,ht,rfl⟩:=Am.1 hk;exact hv t (AR.1 ht));simp only[← bJ];have mz:Lst Entry.gd (esF 0 ks):=by
  refine ⟨by rw[wN];omega,fun e he => ?_⟩;obtain ⟨i,hi,rfl⟩:=Bw he;rw[wN] at hi;have g:=zbu ks 0 i ks[i] (Aa hi);rw[Aa (by rw[wN];exact hi)] at g;have g:=Option.some.inj g;rw[g];have:=ou ks[i] (AO hi);refine ⟨⟨by simp,fun x hx => ?_⟩, ?_⟩
  ·simp at hx;subst hx;constructor<;>omega
  ·constructor<;>simp only<;>omega
 have sp:=P382_eq (o:=dX m) (l:=esF 0 ks) (p:=[0]) (n:=ks.sum) mz (by simp);rw[back_eq h0 h9 eW ou] at sp;rw[show [dH ⟨#[120]⟩ m]=dX m from rfl,sp];have el:(cS ((List.range m).map fun (i:Nat)=>[(1+i:Int)]) ks).length=m:=by simp[cS,eW]
 simp only[zk,show zm 0=Err.nil from rfl,yO,A8,za,zx,z8,el,not_true,decide_false];have hs:=yK (B:=zfB (m:Int) (esF 0 ks,ks.sum,(m:Int)) (cS ((List.range m).map fun (i:Nat)=>[(1+i:Int)]) ks,Err.nil)) m (fun _=>none) (fun i hi=>by
  have g1:=zbu ks 0 i ks[i] (Aa (by omega));have g2:(cS ((List.range m).map fun (i:Nat)=>[(1+i:Int)]) ks)[i]? = some ⟨[(1+i:Int)],ks[i]'(by omega),false⟩:=(by unfold cS;rw[List.getElem?_zipWith,Aa (show i < ks.length by omega)];simp[hi]);simp only[zfB,show (i:Int) < (m:Int) by omega,decide_true,zh,zi,g1,g2,zk,not_true,decide_false,za,zx,z8,yN];rw[zN (by omega) (by omega)]) (by simp[zfB])
 have hn:(List.range m).findSome? (fun _=>(none:Option Bool))=none:=A9.2 fun _ _=>rfl;rw[hs,hn];rfl
end Ab
