import Derived.Test.YtkaifdgeigdbhaaGreatDoorHJ
import Derived.Test.YtkaifdgeigdbhaaGreatDoorH2
import Derived.Test.YtkaifdgeigdbhaaGreatDoorF4
set_option linter.all false
namespace Ab
open Go
section
@[simp] def P92_nil (e:Int):P92 .nil e=some (decide (0=e)):=rfl
@[simp] def P92_no (k e:Int):P92 (.no k) e=some (decide (k=e)):=rfl
@[simp] def P92_errOf (k e:Int):P92 (zA k) e=some (decide (k=e)):=by
 unfold zA;split
 ·subst k;rfl
 ·rfl
def zdO {β:Type} [DecidableEq β] {B:Int->Option (LR Int Bool)} (a b:List β) (hl:a.length=b.length) (h:∀ (i:Nat) (x y:β),a[i]? = some x->b[i]? = some y->B (i:Int)=some (if x=y then .nx ((i:Int)+1) else .fin false)) (hn:B (a.length:Int)=some (.dn (a.length:Int))) :
  lp B 0 (fun _=>some true)=some (decide (a=b)):=by
 have:=w8 (B:=B) (fun p:β×β=>decide (¬ p.1=p.2)) (a.zip b) false true (fun i y hy=>by
  obtain ⟨h1,h2⟩:=AX.1 hy;rw[h i _ _ h1 h2];by_cases e:y.1=y.2<;>simp[e]) (by rw[BS,← hl,Cl];exact hn)
 rw[this];congr 1;by_cases e:a=b
 ·subst e;have:((a.zip a).any fun p=>decide (¬ p.1=p.2))=false:=(by simp only[Cp];intro p hp;have:=AA.1 hp;obtain ⟨i,hi⟩:=this;obtain ⟨h1,h2⟩:=AX.1 hi;rw[h1] at h2;simp[Option.some.inj h2]);rw[this];simp
 ·have:((a.zip b).any fun p=>decide (¬ p.1=p.2))=true:=by
   cases hc:((a.zip b).any fun p=>decide (¬ p.1=p.2)) with
   | true=>rfl
   | false =>
    exfalso;apply e;apply Cn;intro i;by_cases hi:i < a.length
    ·have hp:(a.zip b)[i]? = some (a[i],b[i]'(by omega)):=AX.2 ⟨Aa hi,Aa (by omega)⟩;have:=Cp.1 hc _ (AA.2 ⟨i,hp⟩);simp at this;rw[Aa hi,Aa (by omega),this]
    ·rw[AR (by omega),AR (by omega)]
  rw[if_pos this];simp[e]
def P104_eq (a b:List Int) (h:a.length<=9223372036854775807):P104 a b=some (decide (a=b)):=by
 simp only[P104,S104];by_cases hl:a.length=b.length
 ·have e:((a.length:Nat):Int)=((b.length:Nat):Int):=by omega
  simp only[e,not_true,decide_false,za];refine zdO a b hl (fun i x y hx hy => ?_) (by simp[zjo]);have hi:=(Ac.1 hx).1;have e:((i:Nat):Int) < ((a.length:Nat):Int):=by omega
  simp only[zjo,e,decide_true,zg,zb,hx,hy,zk];rw[zJ (by omega) (by omega)];by_cases e:x=y<;>simp[e]
 ·have e:¬ ((a.length:Nat):Int)=((b.length:Nat):Int):=by omega
  have e2:¬ a=b:=fun e=>hl (by rw[e]);simp[e,e2]
def P28_eq (a b:List Int) (h:a.length<=9223372036854775807):P28 a b=some (decide (a=b)):=by
 simp only[P28,S28];by_cases hl:a.length=b.length
 ·have e:((a.length:Nat):Int)=((b.length:Nat):Int):=by omega
  simp only[e,not_true,decide_false,za];refine zdO a b hl (fun i x y hx hy => ?_) (by simp[S28_L1]);have hi:=(Ac.1 hx).1;have e:((i:Nat):Int) < ((a.length:Nat):Int):=by omega
  simp only[S28_L1,e,decide_true,zg,zb,hx,hy,zk];rw[zJ (by omega) (by omega)];by_cases e:x=y<;>simp[e]
 ·have e:¬ ((a.length:Nat):Int)=((b.length:Nat):Int):=by omega
  have e2:¬ a=b:=fun e=>hl (by rw[e]);simp[e,e2]
end
section
def pwL:List ((Int×Dim)×Int)->Option Int
 | []=>some 1
 | x :: r=>match wl x.1.2.members x.1.1 (path x.1.2.members x.2) with | some v=>(pwL r).map fun u=>v * u | none=>none
def pwR (z:List ((Int×Dim)×Int)):Int×Bool:=match pwL z with | some w=>(w,true) | none=>(0,false)
def pw_gen {B:Int×Int->Option (LR (Int×Int) (Int×Bool))} (z:List ((Int×Dim)×Int)) (hr:∀ x∈z,Rooted x.1.2.members)
  (step:∀ (i:Nat) (x:(Int×Dim)×Int) (w:Int),z[i]? = some x -> -1<=w∧w<=1->B (w,(i:Int))=some (match wl x.1.2.members x.1.1 (path x.1.2.members x.2) with | some v=>.nx (w * v,(i:Int)+1) | none=>.fin (0,false)))
  (hn:∀ w,B (w,(z.length:Int))=some (.dn (w,(z.length:Int)))):lp B (1,0) (fun x=>some (x.1,true))=some (pwR z):=by
 have all:∀ (zs pre:List ((Int×Dim)×Int)) (w:Int),z=pre++zs -> -1<=w∧w<=1->jn (lpO B (w,(pre.length:Int))) (fun x=>some (x.1,true))=some (match pwL zs with | some v=>(w * v,true) | none=>(0,false)):=by
  intro zs
  induction zs with
  | nil =>
   intro pre w e hw;have e:pre=z:=by simp[e]
   subst e;rw[zD (hn w)];simp[pwL]
  | cons x r ih =>
   intro pre w e hw;have hx:z[pre.length]? = some x:=by rw[e];simp
   have hs:=step pre.length x w hx hw;simp only[pwL];cases hv:wl x.1.2.members x.1.1 (path x.1.2.members x.2) with
   | none =>rw[hv] at hs;rw[jc hs];rfl
   | some v =>
    rw[hv] at hs;have hvb:=wl_in (hr x (by rw[e];simp)) _ _ _ hv;rw[z6 hs];have:=ih (pre++[x]) (w * v) (by rw[e];simp) (zbd hw hvb);have el:(((pre++[x]).length:Nat):Int)=(pre.length:Int)+1:=by simp
    rw[el] at this;rw[this];cases pwL r with
    | none=>rfl
    | some u=>simp[Int.mul_assoc]
 have:=all z [] 1 rfl (by omega);simp only[Bu,Int.one_mul] at this;exact this
def cx (o:List Dim) (p k:List Int):List ((Int×Dim)×Int):=(p.zip o).zip k
def zfJ {o:List Dim} {p k:List Int} {i:Nat} {x:(Int×Dim)×Int} (h:(cx o p k)[i]? = some x):p[i]? = some x.1.1∧o[i]? = some x.1.2∧k[i]? = some x.2:=by obtain ⟨h1,h2⟩:=AX.1 h;obtain ⟨h3,h4⟩:=AX.1 h1;exact ⟨h3,h4,h2⟩
def zjx {o:List Dim} {p k:List Int} (h1:p.length=o.length) (h2:k.length=o.length):(cx o p k).length=p.length:=by unfold cx;rw[BS,BS];omega
def pg {o:List Dim} {p k:List Int} (ok:OutOk o):∀ x∈cx o p k,Rooted x.1.2.members:=by intro x hx;obtain ⟨i,hi⟩:=AA.1 hx;exact (ok.dims _ (Ad (zfJ hi).2.1)).rooted
section
variable {o:List Dim} {p k:List Int} (ok:OutOk o) (hp:Fit o p) (hk:Fit o k)
include ok hp hk
def P113_eq:P113 o p k=some (pwR (cx o p k)):=by
 have hl:=zjx (o:=o) hp.len hk.len;refine pw_gen _ (pg ok) (fun i x w hx hw => ?_) (fun w=>by rw[hl];simp[zjn]);obtain ⟨e1,e2,e3⟩:=zfJ hx;have hlen:=ok.len;have hi:=(Ac.1 e1).1;have fk:=hp.len;have e:((i:Nat):Int) < ((p.length:Nat):Int):=by omega
 have hd:=ok.dims _ (Ad e2);have dV:=hk.mem i _ _ e3 e2;obtain ⟨j,hj⟩:=Bx dV.1;have lr:=hd.len;rw[hj] at dV e3;simp only[zjn,e,decide_true,zg,zb,e1,e2,e3,zk,P45_eq hd.rooted (by omega:x.1.2.members.length<=1000) x.1.1 (by omega:j < x.1.2.members.length),hj,wOf];rw[zJ (n:=(i:Int)+1) (by omega) (by omega)];cases hv:wl x.1.2.members x.1.1 (path x.1.2.members (j:Int)) with
 | none=>simp
 | some v =>have hb:=zbd hw (wl_in hd.rooted _ _ _ hv);simp only[A4,za];rw[zJ (by omega) (by omega)];rfl
def P129_eq:P129 o p k=some (pwR (cx o p k)):=by
 have hl:=zjx (o:=o) hp.len hk.len;refine pw_gen _ (pg ok) (fun i x w hx hw => ?_) (fun w=>by rw[hl];simp[zjl]);obtain ⟨e1,e2,e3⟩:=zfJ hx;have hlen:=ok.len;have hi:=(Ac.1 e1).1;have fk:=hp.len;have e:((i:Nat):Int) < ((p.length:Nat):Int):=by omega
 have hd:=ok.dims _ (Ad e2);have dV:=hk.mem i _ _ e3 e2;have hpm:=hp.mem i _ _ e1 e2;obtain ⟨j,hj⟩:=Bx dV.1;have lr:=hd.len;rw[hj] at dV e3;simp only[zjl,e,decide_true,zg,zb,e1,e2,e3,zk,P103_eq hd.rooted hpm.1 (by omega:j < x.1.2.members.length),hj,wOf];rw[zJ (n:=(i:Int)+1) (by omega) (by omega)];cases hv:wl x.1.2.members x.1.1 (path x.1.2.members (j:Int)) with
 | none=>simp
 | some v =>have hb:=zbd hw (wl_in hd.rooted _ _ _ hv);simp only[A4,za];rw[zJ (by omega) (by omega)];rfl
end
def P123_eq (o:List Dim) (p:List Int) (h:p.length<=9223372036854775807):P123 o p=some (yP o p):=by
 simp only[P123,S123];unfold yP;by_cases h1:p.length=o.length
 ·have e:((p.length:Nat):Int)=((o.length:Nat):Int):=by omega
  rw[if_neg (by simpa using h1)];simp only[e,not_true,decide_false,za];rw[w8 badM (p.zip o) 1 0 (fun i y hy => ?_) (by rw[BS,← h1,Cl];simp[zjm])]
  ·obtain ⟨e1,e2⟩:=AX.1 hy;have hi:=(Ac.1 e1).1;have e:((i:Nat):Int) < ((p.length:Nat):Int):=by omega
   simp only[zjm,e,decide_true,zg,zb,e1,e2,zk,badM];rw[zJ (by omega) (by omega)];by_cases c1:y.1 < 0
   ·simp[c1]
   ·by_cases c2:(y.2.members.length:Int)<=y.1<;>simp[c1,c2]
 ·have e:¬ ((p.length:Nat):Int)=((o.length:Nat):Int):=by omega
  rw[if_pos h1];simp[e]
def P125_eq (o:List Dim):P125 o=some (qQ o).2.2:=by simp[P125,S125,P94_eq]
def P130_eq {o:List Dim} {p:List Int} (hf:Fit o p) (h:p.length<=9223372036854775807) (hd:∀ d∈o,d.members.length<=1000):P130 o p=some (wF o p):=by
 simp only[P130,S130];rw[w8 (fun x:Int×Dim => !zap x.2.members x.1.toNat) (p.zip o) false true (fun i y hy => ?_) (by rw[BS,← hf.len,Cl];simp[zjk])]
 ·rw[wF,all_any];cases (p.zip o).any fun x => !zap x.2.members x.1.toNat<;>rfl
 ·obtain ⟨e1,e2⟩:=AX.1 hy;have hi:=(Ac.1 e1).1;have e:((i:Nat):Int) < ((p.length:Nat):Int):=by omega
  have hm:=hf.mem i _ _ e1 e2;have hl:=hd _ (Ad e2);obtain ⟨k,hk⟩:=Bx hm.1;rw[hk] at hm e1;simp only[zjk,e,decide_true,zg,zb,e1,e2,zk,hk,P102_eq hl (by omega:k < y.2.members.length),Am];rw[zJ (by omega) (by omega)];cases zap y.2.members k<;>rfl
def less_loop (a b:List Int) (h:a.length<=9223372036854775807):∀ (n i:Nat),a.length - i=n->i<=a.length->i<=b.length->jn (lpO (zcC a b) (i:Int)) (fun _=>some (decide (((List.length a:Nat):Int) < ((List.length b:Nat):Int))))=some (decide (cmpL (a.drop i) (b.drop i) < 0)):=by
 intro n
 induction n with
 | zero =>
  intro i hi hl hb;obtain rfl:i=a.length:=by omega
  rw[zD (y:=(a.length:Int)) (by simp[zcC])];rw[List.drop_length];simp only[zN];by_cases ae:a.length < b.length
  ·have e:((a.length:Nat):Int) < ((b.length:Nat):Int):=by omega
   rw[Bh ae];simp[e,cmpL]
  ·have e:¬ ((a.length:Nat):Int) < ((b.length:Nat):Int):=by omega
   rw[B9 (by omega)];simp[e,cmpL]
 | succ n ih =>
  intro i hi hl hb;have kl:i < a.length:=by omega
  have e:((i:Nat):Int) < ((a.length:Nat):Int):=by omega
  rw[Bh kl];by_cases iF:i < b.length
  ·have e2:((i:Nat):Int) < ((b.length:Nat):Int):=by omega
   rw[Bh iF];have hB:zcC a b (i:Int)=some (if a[i]=b[i] then .nx ((i:Int)+1) else .fin (decide (a[i] < b[i]))):=(by simp only[zcC,e,e2,decide_true,zg,zt,zN,zb,Aa kl,Aa iF,zk];rw[zJ (by omega) (by omega)];by_cases c1:a[i]=b[i]<;>simp[c1])
   by_cases c0:a[i]=b[i]
   ·rw[if_pos c0] at hB;have hc:cmpL (a[i] :: a.drop (i+1)) (b[i] :: b.drop (i+1))=cmpL (a.drop (i+1)) (b.drop (i+1)):=(by simp only[cmpL];rw[if_neg (by omega),if_neg (by omega)]);rw[z6 hB,hc];exact ih (i+1) (by omega) (by omega) (by omega)
   ·rw[if_neg c0] at hB;rw[jc hB];by_cases c1:a[i] < b[i]
    ·have hc:cmpL (a[i] :: a.drop (i+1)) (b[i] :: b.drop (i+1)) = -1:=by simp only[cmpL];rw[if_pos c1]
     rw[hc];simp[c1]
    ·have c2:b[i] < a[i]:=by omega
     have hc:cmpL (a[i] :: a.drop (i+1)) (b[i] :: b.drop (i+1))=1:=by simp only[cmpL];rw[if_neg c1,if_pos c2]
     rw[hc];simp[c1]
  ·have e2:¬ ((i:Nat):Int) < ((b.length:Nat):Int):=by omega
   have e3:¬ ((a.length:Nat):Int) < ((b.length:Nat):Int):=by omega
   rw[B9 (by omega:b.length<=i),zD (y:=(i:Int)) (by simp[zcC,e,e2])];simp[e3,cmpL]
def lM (a b:List Int) (h:a.length<=9223372036854775807):P151 a b=some (decide (cmpL a b < 0)):=by simp only[P151,S151,zO];exact less_loop a b h a.length 0 (by omega) (BG _) (BG _)
def P122_eq (o:List Dim) (l:List Entry) (hl:Lst Entry.gd l):P122 o l=some (ziZ o l):=by
 simp only[P122,S122,P125_eq,zk];unfold ziZ;by_cases h0:(qQ o).2.2=0
 case neg=>simp[h0]
 have ok:=zbD.1 h0;have iJ:∀ d∈o,d.members.length<=1000:=fun d hd=>by have:=(ok.dims d hd).len;omega
 have hlen:=hl.1;rw[if_neg (by simpa using h0)];simp only[h0,not_true,decide_false,za];have:=jl (B:=lN P123 P130 P151 o l) l.length (fun i=>match l[i]? with
  | some e=>if wJ o l i e=0 then none else some (wJ o l i e)
  | none=>none) (fun i hi=>by
   have e:((i:Nat):Int) < ((l.length:Nat):Int):=by omega
   have hm:=Aa hi;have hg:=hl.2 _ (Ay hi);generalize l[i]=x at hm hg;have aw:x.at_.length<=9223372036854775807:=hg.1.1;simp only[lN,e,decide_true,zg,zb,hm,zk,P123_eq o _ aw];rw[zJ (n:=(i:Int)+1) (by omega) (by omega)];by_cases c1:yP o x.at_=0
   case neg =>
    have hE:wJ o l i x=yP o x.at_:=by unfold wJ;rw[if_pos c1]
    simp[hE,c1]
   have hf:=wX.1 c1;have gr:¬ ¬ yP o x.at_=0:=fun h=>h c1;simp only[c1,not_true,decide_false,za,P130_eq hf aw iJ,zk];cases c2:wF o x.at_ with
   | false =>
    have hE:wJ o l i x=6:=by unfold wJ;rw[if_neg gr,if_pos c2]
    simp[hE]
   | true =>
    have fM:¬ wF o x.at_=false:=by rw[c2];simp
    have hv:∀ k:Bool->Option (LR Int Int),jn (σ:=Bool) (α:=LR Int Int) (br (decide (x.n < -1000000)) (zq (some true)) (zq (some (decide ((1000000:Int) < x.n))))) k=k (!eY x.n):=by
     intro k;unfold eY;by_cases d1:x.n < -1000000
     ·have:¬ -1000000<=x.n:=by omega
      simp[d1,this]
     ·have : -1000000<=x.n:=by omega
      by_cases d2:1000000 < x.n
      ·have d3:¬ x.n<=1000000:=by omega
       simp[d1,this,d2,d3]
      ·have d3:x.n<=1000000:=by omega
       simp[d1,this,d2,d3]
    simp only[A4,za,hv];cases c3:eY x.n with
    | false =>
     have hE:wJ o l i x=1:=by unfold wJ;rw[if_neg gr,if_neg fM,if_pos c3]
     simp[hE]
    | true =>
     have iU:¬ eY x.n=false:=by rw[c3];simp
     simp only[A4,za];cases i with
     | zero =>
      have hE:wJ o l 0 x=0:=by unfold wJ;rw[if_neg gr,if_neg fM,if_neg iU]
      simp[hE]
     | succ j =>
      have hj:j < l.length:=by omega
      have ej:=Aa hj;have nW:=hl.2 _ (Ay hj);have hE:wJ o l (j+1) x=if 0<=cmpL l[j].at_ x.at_ then 7 else 0:=by unfold wJ;rw[if_neg gr,if_neg fM,if_neg iU];simp only[ej]
      have e0:¬ ((j+1:Nat):Int)=0:=by omega
      have e1:((j+1:Nat):Int) - 1=(j:Int):=by omega
      simp only[e0,decide_false,za,e1];rw[zJ (n:=(j:Int)) (by omega) (by omega)];simp only[zb,ej,zk,lM _ _ nW.1.1,hE];by_cases c4:0<=cmpL l[j].at_ x.at_
      ·have c5:¬ cmpL l[j].at_ x.at_ < 0:=by omega
       simp[c4,c5]
      ·have c5:cmpL l[j].at_ x.at_ < 0:=by omega
       simp[c4,c5]) (by simp[lN])
 unfold lp;rw[this];cases ((List.range l.length).findSome? fun i=>match l[i]? with | some e=>if wJ o l i e=0 then none else some (wJ o l i e) | none=>none) with
 | none=>simp
 | some r=>rfl
end
section
def zfr (l:List Member) (i:Int):(qq l i).length<=l.length:=zbS _ _
def P142_eq (o:List Dim) (n:Nat) (hl:o.length<=1000) (hn:n<=1000000000) (hp:∀ d∈o,0 < d.members.length∧d.members.length<=1000000):P142 o (n:Int)=some (jU o n).1:=by have cJ:S142_L1 o=zfG o:=rfl;have:=P69_eq o n hl hn hp;simp only[P69,S69,Am,BX] at this;simp only[P142,S142,Am,cJ];exact this
def zx (o:List Dim) (p:List Int):List (List Int):=(p.zip o).foldl (fun out x=>out.flatMap fun q=>(qq x.2.members x.1).map fun k=>q++[k]) [[]]
def L1_eq (y5 y7:List Int) (acc:List (List Int)) (h:acc.length+y7.length<=1000000) (h5:y5.length<=1000):lpO (zeS y5 y7) (acc,0)=some (.inl (acc++y7.map (fun k=>y5++[k]),(y7.length:Int))):=by
 have hs:=zU (B:=zeS y5 y7) (fun i=>(acc++(y7.take i).map (fun k=>y5++[k]),(i:Int))) y7.length (fun i hi=>by
  have e:((i:Nat):Int) < ((y7.length:Nat):Int):=by omega
  have c1:y5.length<=zH:=by unfold zH;omega
  have c2:y5.length+1<=zH:=by unfold zH;omega
  have c3:(acc++(y7.take i).map (fun k=>y5++[k])).length+1<=zH:=by simp;unfold zH;omega
  have et:(y7.take (i+1)).map (fun k=>y5++[k])=(y7.take i).map (fun k=>y5++[k])++[y5++[y7[i]]]:=(by rw[B2 hi,A7];rfl);simp only[zeS,e,decide_true,zg,zb,Aa hi,zk,Bb,zw c1,zw c2,zw c3,qR,et];rw[zJ (by omega) (by omega),AN];rfl)
 simp only[BI,BU,Bk,Bg] at hs;exact hs.trans (zD (by simp[zeS]))
def L2_eq {o:List Dim} (out:List (List Int)) (i:Nat) (d:Dim) (m:Int) (hd:o[i]? = some d) (hr:Rooted d.members) (hm:d.members.length<=12) (h:out.length * 12<=1000000 - 100) (hq:∀ q∈out,q.length<=1000) :
  lpO (zeR P46 o (out,(i:Int)) m) ([],0)=some (.inl (out.flatMap (fun q=>(qq d.members m).map fun k=>q++[k]),(out.length:Int))):=by
 have pY:=zfr d.members m;have hlen:∀ l:List (List Int),(l.flatMap fun q=>(qq d.members m).map fun k=>q++[k]).length=l.length * (qq d.members m).length:=by
  intro l
  induction l with
  | nil=>simp
  | cons a l ih=>rw[Bs,AQ,ih,Ao,Ax,Bc,Nat.one_mul,C6]
 have hs:=zU (B:=zeR P46 o (out,(i:Int)) m) (fun j=>((out.take j).flatMap (fun q=>(qq d.members m).map fun k=>q++[k]),(j:Int))) out.length (fun j hj=>by
  have e:((j:Nat):Int) < ((out.length:Nat):Int):=by omega
  have gG:=hq _ (Ay hj);have et:(out.take (j+1)).flatMap (fun q=>(qq d.members m).map fun k=>q++[k])=(out.take j).flatMap (fun q=>(qq d.members m).map fun k=>q++[k])++(qq d.members m).map fun k=>out[j]++[k]:=(by rw[B2 hj,C2];simp);have hb:((out.take j).flatMap (fun q=>(qq d.members m).map fun k=>q++[k])).length+(qq d.members m).length<=1000000:=(by rw[hlen,Bm,Nat.min_eq_left (by omega)];have:j * (qq d.members m).length<=out.length * 12:=BT (by omega) (by omega);omega);simp only[zeR,e,decide_true,zg,zb,Aa hj,hd,zk,P46_eq hr (by omega:d.members.length<=1000),zO,L1_eq _ _ _ hb gG,zN,qR,et];rw[zJ (by omega) (by omega)];rfl)
 simp only[BI,BU,List.flatMap_nil] at hs;exact hs.trans (zD (by simp[zeR]))
def fold_prop {o:List Dim} {p:List Int} (ok:OutOk o) (hf:Fit o p):∀ i,i<=p.length->(((p.zip o).take i).foldl (fun out x=>out.flatMap fun q=>(qq x.2.members x.1).map fun k=>q++[k]) [[]]).length<=12 ^ i ∧
  ∀ q∈(((p.zip o).take i).foldl (fun out x=>out.flatMap fun q=>(qq x.2.members x.1).map fun k=>q++[k]) [[]]),q.length=i:=by
 intro i
 induction i with
 | zero=>intro _;simp
 | succ i ih =>
  intro hi;obtain ⟨h1,h2⟩:=ih (by omega);have fk:=hf.len;have hx:(p.zip o)[i]? = some (p[i],o[i]'(by omega)):=AX.2 ⟨Aa (by omega),Aa (by omega)⟩;have hd:=ok.dims _ (Ay (by omega:i < o.length));have pY:=zfr o[i].members p[i];have lr:=hd.len;rw[zar _ _ _ hx];generalize ((p.zip o).take i).foldl (fun out x=>out.flatMap fun q=>(qq x.2.members x.1).map fun k=>q++[k]) [[]]=out at h1 h2;have hlen:∀ l:List (List Int),(l.flatMap fun q=>(qq o[i].members p[i]).map fun k=>q++[k]).length=l.length * (qq o[i].members p[i]).length:=by
   intro l
   induction l with
   | nil=>simp
   | cons a l ih=>rw[Bs,AQ,ih,Ao,Ax,Bc,Nat.one_mul,C6]
  refine ⟨?_,fun q hq => ?_⟩
  ·show (out.flatMap fun q=>(qq o[i].members p[i]).map fun k=>q++[k]).length<=_;rw[hlen,CP];exact BT h1 (by omega)
  ·obtain ⟨q0,gH,hq1⟩:=BN.1 hq;obtain ⟨k,_,rfl⟩:=Aj.1 hq1;simp[h2 q0 gH]
def jt (o:List Dim) (p:List Int):Int:=if (qQ o).2.2=0 then yP o p else (qQ o).2.2
def zeY (o:List Dim) (p:List Int) (h:p.length<=9223372036854775807):P114 o p=some (zA (jt o p)):=by simp only[P114,S114,P51_eq,zk,zP,jt];by_cases h0:(qQ o).2.2=0<;>simp[h0,P58_eq o p h]
def zdo {o:List Dim} {p:List Int}:jt o p=0↔OutOk o∧Fit o p:=by
 unfold jt;by_cases h0:(qQ o).2.2=0
 ·rw[if_pos h0,wX];exact ⟨fun h=>⟨zbD.1 h0,h⟩,fun h=>h.2⟩
 ·rw[if_neg h0];exact ⟨fun h=>absurd h h0,fun h=>absurd (zbD.2 h.1) h0⟩
def P127_eq (o:List Dim) (p:List Int) (h:p.length<=9223372036854775807):P127 o p=some (if jt o p=0 then (zx o p,.nil) else ([],zA (jt o p))):=by
 simp only[P127,S127,zeY o p h,zk,zP];by_cases h0:jt o p=0
 case neg=>simp[h0]
 obtain ⟨ok,hf⟩:=zdo.1 h0;have fk:=hf.len;have iA:=ok.len;have hz:(p.zip o).length=p.length:=by rw[BS,← fk,Cl]
 have hs:=zU (B:=zeQ P46 o p) (fun i=>(((p.zip o).take i).foldl (fun out x=>out.flatMap fun q=>(qq x.2.members x.1).map fun k=>q++[k]) [[]],(i:Int))) p.length (fun i hi=>by
  have e:((i:Nat):Int) < ((p.length:Nat):Int):=by omega
  obtain ⟨h1,h2⟩:=fold_prop ok hf i (by omega);have kj:=pow_le (by omega:i<=4);have hx:(p.zip o)[i]? = some (p[i],o[i]'(by omega)):=AX.2 ⟨Aa hi,Aa (by omega)⟩;have hd:=ok.dims _ (Ay (by omega:i < o.length));have lr:=hd.len;rw[zar _ _ _ hx];generalize ((p.zip o).take i).foldl (fun out x=>out.flatMap fun q=>(qq x.2.members x.1).map fun k=>q++[k]) [[]]=out at h1 h2;have:=L2_eq (o:=o) out i o[i] p[i] (Aa (by omega)) hd.rooted (by omega) (by omega) (fun q hq=>by rw[h2 q hq];omega);simp only[zeQ,e,decide_true,zg,zb,Aa hi,zk,zO,this,zN,qR];rw[zJ (by omega) (by omega)];rfl)
 have ht:(p.zip o).take p.length=p.zip o:=by rw[← hz,BI]
 rw[ht] at hs;have hs:lpO (zeQ P46 o p) ([[]],0)=some (.inl (zx o p,(p.length:Int))):=hs.trans (zD (by simp[zeQ,zx]));simp[h0,zO,hs]
def jv (o:List Dim) (p q:List Int):Bool:=wF o q && (pwL (cx o p q)).isSome
def P126_eq {o:List Dim} {p:List Int} (ok:OutOk o) (hf:Fit o p):P126 o p=some (((List.range (sizeN o)).map fun n=>(jU o n).1).filter (jv o p)):=by
 obtain ⟨aM,hle⟩:=ok.sizeN;have iA:=ok.len;have iJ:∀ d∈o,d.members.length<=1000:=fun d hd=>by have:=(ok.dims d hd).len;omega
 have hs:=zU (B:=zeT P129 P130 P142 o p ((sizeN o:Nat):Int)) (fun n=>((((List.range n).map fun n=>(jU o n).1).filter (jv o p)),(n:Int))) (sizeN o) (fun n hn=>by
  have e:((n:Nat):Int) < ((sizeN o:Nat):Int):=by omega
  have hq:=zkb ok n;have gG:(jU o n).1.length<=9223372036854775807:=by rw[zdy];omega
  have hl:(((List.range n).map fun n=>(jU o n).1).filter (jv o p)).length<=n:=(by refine AL (Bo _ _) ?_;simp);have c:(((List.range n).map fun n=>(jU o n).1).filter (jv o p)).length+1<=zH:=by unfold zH;omega
  have et:((List.range (n+1)).map fun n=>(jU o n).1).filter (jv o p)=(((List.range n).map fun n=>(jU o n).1).filter (jv o p))++if jv o p (jU o n).1=true then [(jU o n).1] else []:=(by rw[BZ,A7,B8];simp only[Ar,Bk,List.filter_cons,List.filter_nil]);simp only[zeT,e,decide_true,zg,P142_eq o n (by omega) (by omega) (fun d hd=>by have:=(ok.dims d hd).len;omega),zk,P130_eq hq gG iJ,P129_eq ok hf hq,pwR,et,Bb,zw c];rw[zJ (by omega) (by omega)];have lC:jv o p (jU o n).1=(wF o (jU o n).1 && (pwL (cx o p (jU o n).1)).isSome):=rfl;rw[lC];generalize wF o (jU o n).1=x;generalize pwL (cx o p (jU o n).1)=y;cases x<;>cases y<;>simp)
 simp only[List.range_zero,Bk,List.filter_nil] at hs;have hs:lpO (zeT P129 P130 P142 o p ((sizeN o:Nat):Int)) ([],0)=some (.inl (((List.range (sizeN o)).map fun n=>(jU o n).1).filter (jv o p),((sizeN o:Nat):Int))):=hs.trans (zD (by simp[zeT]));simp only[P126,S126,P106_eq o (by omega),zk,aM,zO,hs,zN]
def zia (x:Int×Dim) (k:Int):Bool:=(wl x.2.members x.1 (path x.2.members k)).isSome && zap x.2.members k.toNat
def pb:∀ (o:List Dim) (p q:List Int),p.length=o.length->q.length=o.length->jv o p q=zid ((p.zip o).map zia) q
 | [],[],[],_,_=>rfl
 | d :: o,m :: p,k :: q,h1,h2=>by
  simp only[Ax,CL] at h1 h2;have ih:=pb o p q h1 h2;have e1:wF (d :: o) (k :: q)=(zap d.members k.toNat && wF o q):=rfl;have e2:cx (d :: o) (m :: p) (k :: q)=((m,d),k) :: cx o p q:=rfl;simp only[List.zip_cons_cons,Ar,zid,← ih];unfold jv;rw[e1,e2];simp only[pwL,zia];cases wl d.members m (path d.members k) with
  | none=>simp
  | some v=>cases zap d.members k.toNat<;>simp
 | [],_ :: _,_,h1,_=>by simp at h1
 | _ :: _,[],_,h1,_=>by simp at h1
 | [],[],_ :: _,_,h2=>by simp at h2
 | _ :: _,_ :: _,[],_,h2=>by simp at h2
def zipF:∀ (o:List Dim) (p:List Int),p.length=o.length->List.zipWith (fun f l=>l.filter f) ((p.zip o).map zia) (o.map fun d=>(List.range d.members.length).map fun (k:Nat)=>(k:Int))=(p.zip o).map fun x=>qq x.2.members x.1
 | [],[],_=>rfl
 | d :: o,m :: p,h=>by
  simp only[Ax,CL] at h;simp only[List.zip_cons_cons,Ar,List.zipWith_cons_cons,zipF o p h];congr 1;rw[List.filter_map];rfl
 | [],_ :: _,h=>by simp at h
 | _ :: _,[],h=>by simp at h
def zci {o:List Dim} {p:List Int} (ok:OutOk o) (hf:Fit o p):((List.range (sizeN o)).map fun n=>(jU o n).1).filter (jv o p)=zx o p:=by
 have bw:∀ d∈o,0 < d.members.length:=fun d hd=>(ok.dims d hd).len.1
 have e1:((List.range (sizeN o)).map fun n=>(jU o n).1).filter (jv o p)=((List.range (sizeN o)).map fun n=>(jU o n).1).filter (zid ((p.zip o).map zia)) :=
  List.filter_congr fun q hq=>by
   obtain ⟨n,_,rfl⟩:=Aj.1 hq;exact pb o p _ hf.len (zdy o n)
 have hz:((p.zip o).map zia).length=(o.map fun d=>(List.range d.members.length).map fun (k:Nat)=>(k:Int)).length:=(by rw[Ao,Ao,BS,hf.len,Cl]);rw[e1,ziF o bw,zee _ _ hz,zipF o p hf.len];unfold zx;have:=pd ((p.zip o).map fun x=>qq x.2.members x.1) [[]];rw[List.foldl_map] at this;rw[this];simp
def P111_eq (o:List Dim) (p q:List Int) (h1:p.length<=9223372036854775807) (h2:q.length<=9223372036854775807):P111 o p q=some (if jt o p=0 then (if jt o q=0 then (if ((pwL (cx o p q)).isSome && wF o q)=true then ((pwR (cx o p q)).1,.nil) else (0,.no 3)) else (0,zA (jt o q))) else (0,zA (jt o p))):=by
 have w1:wi 1=1:=by decide
 have w2:wi 2=2:=by decide
 simp only[P111,S111,zO];by_cases a:jt o p=0
 case neg =>
  have hB:wt P114 o p q 0=some (.fin (0,zA (jt o p))):=(by simp[wt,zeY o p h1,zP,a]);rw[jc hB];simp[a]
 have hB:wt P114 o p q 0=some (.nx 1):=(by simp[wt,zeY o p h1,zP,a,w1]);rw[z6 hB];by_cases b:jt o q=0
 case neg =>
  have hB:wt P114 o p q 1=some (.fin (0,zA (jt o q))):=(by simp[wt,zeY o q h2,zP,b]);rw[jc hB];simp[a,b]
 have hB:wt P114 o p q 1=some (.nx 2):=(by simp[wt,zeY o q h2,zP,b,w2]);rw[z6 hB,zD (y:=2) (by simp[wt])];obtain ⟨ok,hp⟩:=zdo.1 a;obtain ⟨_,hq⟩:=zdo.1 b;have iJ:∀ d∈o,d.members.length<=1000:=fun d hd=>by have:=(ok.dims d hd).len;omega
 simp only[zN,P113_eq ok hp hq,zk,P59_eq hq h2 iJ,pwR,a,b,if_true];cases pwL (cx o p q) with
 | none=>simp
 | some w=>cases wF o q<;>simp
end
end Ab
