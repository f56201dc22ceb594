import Derived.Test.YtkaifdgeigdbhaaGreatDoorHJ
import Derived.Test.YtkaifdgeigdbhaaGreatDoorH2
import Derived.Test.YtkaifdgeigdbhaaGreatDoorF4
set_option linter.all false
namespace Ab
open Go
section
@[simp] def P92_nil (e:Int):P92 .nil e=some (decide (0=e)):=rfl
@[simp] def P92_no (k e:Int):P92 (.no k) e=some (decide (k=e)):=rfl
@[simp] def P92_errOf (k e:Int):P92 (zm k) e=some (decide (k=e)):=by
 unfold zm;split
 ·subst k;rfl
 ·rfl
end
section
def pwL:List ((Int×Dim)×Int)->Option Int
 | []=>some 1
 | x :: r=>match wl x.1.2.members x.1.1 (path x.1.2.members x.2) with | some v=>(pwL r).map fun u=>v * u | none=>none
def pwR (z:List ((Int×Dim)×Int)):Int×Bool:=match pwL z with | some w=>(w,true) | none=>(0,false)
def pw_gen {B:Int×Int->Option (LR (Int×Int) (Int×Bool))} (z:List ((Int×Dim)×Int)) (hr:∀ x∈z,Rooted x.1.2.members)
  (step:∀ (i:Nat) (x:(Int×Dim)×Int) (w:Int),z[i]? = some x -> -1<=w∧w<=1->B (w,(i:Int))=some (match wl x.1.2.members x.1.1 (path x.1.2.members x.2) with | some v=>.nx (w * v,(i:Int)+1) | none=>.fin (0,false)))
  (hn:∀ w,B (w,(z.length:Int))=some (.dn (w,(z.length:Int)))):lp B (1,0) (fun x=>some (x.1,true))=some (pwR z):=by
 have all:∀ (zs pre:List ((Int×Dim)×Int)) (w:Int),z=pre++zs -> -1<=w∧w<=1->jn (lpO B (w,(pre.length:Int))) (fun x=>some (x.1,true))=some (match pwL zs with | some v=>(w * v,true) | none=>(0,false)):=by
  intro zs
  induction zs with
  | nil =>
   intro pre w e hw;have e:pre=z:=by simp[e]
   subst e;rw[zB (hn w)];simp[pwL]
  | cons x r ih =>
   intro pre w e hw;have hx:z[pre.length]? = some x:=by rw[e];simp
   have hs:=step pre.length x w hx hw;simp only[pwL];cases hv:wl x.1.2.members x.1.1 (path x.1.2.members x.2) with
   | none =>rw[hv] at hs;rw[qL hs];rfl
   | some v =>
    rw[hv] at hs;have hvb:=wl_in (hr x (by rw[e];simp)) _ _ _ hv;rw[zZ hs];have:=ih (pre++[x]) (w * v) (by rw[e];simp) (zeW hw hvb);have el:(((pre++[x]).length:Nat):Int)=(pre.length:Int)+1:=by simp
    rw[el] at this;rw[this];cases pwL r with
    | none=>rfl
    | some u=>simp[Int.mul_assoc]
 have:=all z [] 1 rfl (by omega);simp only[Bs,Int.one_mul] at this;exact this
def zfK (o:List Dim) (p k:List Int):List ((Int×Dim)×Int):=(p.zip o).zip k
def ni {o:List Dim} {p k:List Int} {i:Nat} {x:(Int×Dim)×Int} (h:(zfK o p k)[i]? = some x):p[i]? = some x.1.1∧o[i]? = some x.1.2∧k[i]? = some x.2:=by obtain ⟨h1,h2⟩:=Bk.1 h;obtain ⟨h3,h4⟩:=Bk.1 h1;exact ⟨h3,h4,h2⟩
def zip3_len {o:List Dim} {p k:List Int} (h1:p.length=o.length) (h2:k.length=o.length):(zfK o p k).length=p.length:=by unfold zfK;rw[B8,B8];omega
def zip3_root {o:List Dim} {p k:List Int} (ok:OutOk o):∀ x∈zfK o p k,Rooted x.1.2.members:=by intro x hx;obtain ⟨i,hi⟩:=AB.1 hx;exact (ok.dims _ (Ad (ni hi).2.1)).rooted
section
variable {o:List Dim} {p k:List Int} (ok:OutOk o) (hp:Fit o p) (hk:Fit o k)
include ok hp hk
def P113_eq:P113 o p k=some (pwR (zfK o p k)):=by
 have hl:=zip3_len (o:=o) hp.len hk.len;refine pw_gen _ (zip3_root ok) (fun i x w hx hw => ?_) (fun w=>by rw[hl];simp[lb]);obtain ⟨e1,e2,e3⟩:=ni hx;have hlen:=ok.len;have hi:=(Ac.1 e1).1;have eK:=hp.len;have e:((i:Nat):Int) < ((p.length:Nat):Int):=by omega
 have hd:=ok.dims _ (Ad e2);have mi:=hk.mem i _ _ e3 e2;obtain ⟨j,hj⟩:=BV mi.1;have oF:=hd.len;rw[hj] at mi e3;simp only[lb,e,decide_true,zh,zi,e1,e2,e3,zk,P45_eq hd.rooted (by omega:x.1.2.members.length<=1000) x.1.1 (by omega:j < x.1.2.members.length),hj,wOf];rw[zN (n:=(i:Int)+1) (by omega) (by omega)];cases hv:wl x.1.2.members x.1.1 (path x.1.2.members (j:Int)) with
 | none=>simp
 | some v =>have hb:=zeW hw (wl_in hd.rooted _ _ _ hv);simp only[A8,za];rw[zN (by omega) (by omega)];rfl
end
end
section
def zeh (l:List Member) (i:Int):(z6 l i).length<=l.length:=zct _ _
def zJ (o:List Dim) (p:List Int):List (List Int):=(p.zip o).foldl (fun out x=>out.flatMap fun q=>(z6 x.2.members x.1).map fun k=>q++[k]) [[]]
def L1_eq (y5 y7:List Int) (acc:List (List Int)) (h:acc.length+y7.length<=1000000) (h5:y5.length<=1000):lpO (zdI y5 y7) (acc,0)=some (.inl (acc++y7.map (fun k=>y5++[k]),(y7.length:Int))):=by
 have hs:=qr (B:=zdI y5 y7) (fun i=>(acc++(y7.take i).map (fun k=>y5++[k]),(i:Int))) y7.length (fun i hi=>by
  have e:((i:Nat):Int) < ((y7.length:Nat):Int):=by omega
  have c1:y5.length<=zX:=by unfold zX;omega
  have c2:y5.length+1<=zX:=by unfold zX;omega
  have c3:(acc++(y7.take i).map (fun k=>y5++[k])).length+1<=zX:=by simp;unfold zX;omega
  have et:(y7.take (i+1)).map (fun k=>y5++[k])=(y7.take i).map (fun k=>y5++[k])++[y5++[y7[i]]]:=(by rw[Ca hi,Bb];rfl);simp only[zdI,e,decide_true,zh,zi,Aa hi,zk,BA,zy c1,zy c2,zy c3,yN,et];rw[zN (by omega) (by omega),AK];rfl)
 simp only[BS,BR,Bc,Bg] at hs;exact hs.trans (zB (by simp[zdI]))
def L2_eq {o:List Dim} (out:List (List Int)) (i:Nat) (d:Dim) (m:Int) (hd:o[i]? = some d) (hr:Rooted d.members) (hm:d.members.length<=12) (h:out.length * 12<=1000000 - 100) (hq:∀ q∈out,q.length<=1000) :
  lpO (zdH P46 o (out,(i:Int)) m) ([],0)=some (.inl (out.flatMap (fun q=>(z6 d.members m).map fun k=>q++[k]),(out.length:Int))):=by
 have oi:=zeh d.members m;have hlen:∀ l:List (List Int),(l.flatMap fun q=>(z6 d.members m).map fun k=>q++[k]).length=l.length * (z6 d.members m).length:=by
  intro l
  induction l with
  | nil=>simp
  | cons a l ih=>rw[Bj,AQ,ih,An,Au,A4,Nat.one_mul,Co]
 have hs:=qr (B:=zdH P46 o (out,(i:Int)) m) (fun j=>((out.take j).flatMap (fun q=>(z6 d.members m).map fun k=>q++[k]),(j:Int))) out.length (fun j hj=>by
  have e:((j:Nat):Int) < ((out.length:Nat):Int):=by omega
  have kF:=hq _ (AO hj);have et:(out.take (j+1)).flatMap (fun q=>(z6 d.members m).map fun k=>q++[k])=(out.take j).flatMap (fun q=>(z6 d.members m).map fun k=>q++[k])++(z6 d.members m).map fun k=>out[j]++[k]:=(by rw[Ca hj,C0];simp);have hb:((out.take j).flatMap (fun q=>(z6 d.members m).map fun k=>q++[k])).length+(z6 d.members m).length<=1000000:=(by rw[hlen,B4,Nat.min_eq_left (by omega)];have:j * (z6 d.members m).length<=out.length * 12:=BH (by omega) (by omega);omega);simp only[zdH,e,decide_true,zh,zi,Aa hj,hd,zk,P46_eq hr (by omega:d.members.length<=1000),qe,L1_eq _ _ _ hb kF,z8,yN,et];rw[zN (by omega) (by omega)];rfl)
 simp only[BS,BR,List.flatMap_nil] at hs;exact hs.trans (zB (by simp[zdH]))
def fold_prop {o:List Dim} {p:List Int} (ok:OutOk o) (hf:Fit o p):∀ i,i<=p.length->(((p.zip o).take i).foldl (fun out x=>out.flatMap fun q=>(z6 x.2.members x.1).map fun k=>q++[k]) [[]]).length<=12 ^ i ∧
  ∀ q∈(((p.zip o).take i).foldl (fun out x=>out.flatMap fun q=>(z6 x.2.members x.1).map fun k=>q++[k]) [[]]),q.length=i:=by
 intro i
 induction i with
 | zero=>intro _;simp
 | succ i ih =>
  intro hi;obtain ⟨h1,h2⟩:=ih (by omega);have eK:=hf.len;have hx:(p.zip o)[i]? = some (p[i],o[i]'(by omega)):=Bk.2 ⟨Aa (by omega),Aa (by omega)⟩;have hd:=ok.dims _ (AO (by omega:i < o.length));have oi:=zeh o[i].members p[i];have oF:=hd.len;rw[ky _ _ _ hx];generalize ((p.zip o).take i).foldl (fun out x=>out.flatMap fun q=>(z6 x.2.members x.1).map fun k=>q++[k]) [[]]=out at h1 h2;have hlen:∀ l:List (List Int),(l.flatMap fun q=>(z6 o[i].members p[i]).map fun k=>q++[k]).length=l.length * (z6 o[i].members p[i]).length:=by
   intro l
   induction l with
   | nil=>simp
   | cons a l ih=>rw[Bj,AQ,ih,An,Au,A4,Nat.one_mul,Co]
  refine ⟨?_,fun q hq => ?_⟩
  ·show (out.flatMap fun q=>(z6 o[i].members p[i]).map fun k=>q++[k]).length<=_;rw[hlen,Nat.pow_succ];exact BH h1 (by omega)
  ·obtain ⟨q0,fo,hq1⟩:=BE.1 hq;obtain ⟨k,_,rfl⟩:=Am.1 hq1;simp[h2 q0 fo]
def qW (o:List Dim) (p:List Int):Int:=if (qS o).2.2=0 then wg o p else (qS o).2.2
def zdM (o:List Dim) (p:List Int) (h:p.length<=9223372036854775807):P114 o p=some (zm (qW o p)):=by simp only[P114,S114,P51_eq,zk,zF,qW];by_cases h0:(qS o).2.2=0<;>simp[h0,P58_eq o p h]
def zcl {o:List Dim} {p:List Int}:qW o p=0↔OutOk o∧Fit o p:=by
 unfold qW;by_cases h0:(qS o).2.2=0
 ·rw[if_pos h0,zbs];exact ⟨fun h=>⟨wD.1 h0,h⟩,fun h=>h.2⟩
 ·rw[if_neg h0];exact ⟨fun h=>absurd h h0,fun h=>absurd (wD.2 h.1) h0⟩
def P127_eq (o:List Dim) (p:List Int) (h:p.length<=9223372036854775807):P127 o p=some (if qW o p=0 then (zJ o p,.nil) else ([],zm (qW o p))):=by
 simp only[P127,S127,zdM o p h,zk,zF];by_cases h0:qW o p=0
 case neg=>simp[h0]
 obtain ⟨ok,hf⟩:=zcl.1 h0;have eK:=hf.len;have fU:=ok.len;have hz:(p.zip o).length=p.length:=by rw[B8,← eK,C3]
 have hs:=qr (B:=zdG P46 o p) (fun i=>(((p.zip o).take i).foldl (fun out x=>out.flatMap fun q=>(z6 x.2.members x.1).map fun k=>q++[k]) [[]],(i:Int))) p.length (fun i hi=>by
  have e:((i:Nat):Int) < ((p.length:Nat):Int):=by omega
  obtain ⟨h1,h2⟩:=fold_prop ok hf i (by omega);have gD:=pow_le (by omega:i<=4);have hx:(p.zip o)[i]? = some (p[i],o[i]'(by omega)):=Bk.2 ⟨Aa hi,Aa (by omega)⟩;have hd:=ok.dims _ (AO (by omega:i < o.length));have oF:=hd.len;rw[ky _ _ _ hx];generalize ((p.zip o).take i).foldl (fun out x=>out.flatMap fun q=>(z6 x.2.members x.1).map fun k=>q++[k]) [[]]=out at h1 h2;have:=L2_eq (o:=o) out i o[i] p[i] (Aa (by omega)) hd.rooted (by omega) (by omega) (fun q hq=>by rw[h2 q hq];omega);simp only[zdG,e,decide_true,zh,zi,Aa hi,zk,qe,this,z8,yN];rw[zN (by omega) (by omega)];rfl)
 have ht:(p.zip o).take p.length=p.zip o:=by rw[← hz,BS]
 rw[ht] at hs;have hs:lpO (zdG P46 o p) ([[]],0)=some (.inl (zJ o p,(p.length:Int))):=hs.trans (zB (by simp[zdG,zJ]));simp[h0,qe,hs]
def gO (o:List Dim) (p q:List Int):Bool:=wH o q && (pwL (zfK o p q)).isSome
def zgY (x:Int×Dim) (k:Int):Bool:=(wl x.2.members x.1 (path x.2.members k)).isSome && dD x.2.members k.toNat
def zgX:∀ (o:List Dim) (p q:List Int),p.length=o.length->q.length=o.length->gO o p q=fb ((p.zip o).map zgY) q
 | [],[],[],_,_=>rfl
 | d :: o,m :: p,k :: q,h1,h2=>by
  simp only[Au,CC] at h1 h2;have ih:=zgX o p q h1 h2;have e1:wH (d :: o) (k :: q)=(dD d.members k.toNat && wH o q):=rfl;have e2:zfK (d :: o) (m :: p) (k :: q)=((m,d),k) :: zfK o p q:=rfl;simp only[List.zip_cons_cons,Ar,fb,← ih];unfold gO;rw[e1,e2];simp only[pwL,zgY];cases wl d.members m (path d.members k) with
  | none=>simp
  | some v=>cases dD d.members k.toNat<;>simp
 | [],_ :: _,_,h1,_=>by simp at h1
 | _ :: _,[],_,h1,_=>by simp at h1
 | [],[],_ :: _,_,h2=>by simp at h2
 | _ :: _,_ :: _,[],_,h2=>by simp at h2
def zipF:∀ (o:List Dim) (p:List Int),p.length=o.length->List.zipWith (fun f l=>l.filter f) ((p.zip o).map zgY) (o.map fun d=>(List.range d.members.length).map fun (k:Nat)=>(k:Int))=(p.zip o).map fun x=>z6 x.2.members x.1
 | [],[],_=>rfl
 | d :: o,m :: p,h=>by
  simp only[Au,CC] at h;simp only[List.zip_cons_cons,Ar,List.zipWith_cons_cons,zipF o p h];congr 1;rw[List.filter_map];rfl
 | [],_ :: _,h=>by simp at h
 | _ :: _,[],h=>by simp at h
def zeg {o:List Dim} {p:List Int} (ok:OutOk o) (hf:Fit o p):((List.range (sizeN o)).map fun n=>(bK o n).1).filter (gO o p)=zJ o p:=by
 have bh:∀ d∈o,0 < d.members.length:=fun d hd=>(ok.dims d hd).len.1
 have e1:((List.range (sizeN o)).map fun n=>(bK o n).1).filter (gO o p)=((List.range (sizeN o)).map fun n=>(bK o n).1).filter (fb ((p.zip o).map zgY)) :=
  List.filter_congr fun q hq=>by
   obtain ⟨n,_,rfl⟩:=Am.1 hq;exact zgX o p _ hf.len (ziN o n)
 have hz:((p.zip o).map zgY).length=(o.map fun d=>(List.range d.members.length).map fun (k:Nat)=>(k:Int)).length:=(by rw[An,An,B8,hf.len,C3]);rw[e1,zhu o bh,nI _ _ hz,zipF o p hf.len];unfold zJ;have:=zgU ((p.zip o).map fun x=>z6 x.2.members x.1) [[]];rw[List.foldl_map] at this;rw[this];simp
def P111_eq (o:List Dim) (p q:List Int) (h1:p.length<=9223372036854775807) (h2:q.length<=9223372036854775807):P111 o p q=some (if qW o p=0 then (if qW o q=0 then (if ((pwL (zfK o p q)).isSome && wH o q)=true then ((pwR (zfK o p q)).1,.nil) else (0,.no 3)) else (0,zm (qW o q))) else (0,zm (qW o p))):=by
 have w1:wi 1=1:=by decide
 have w2:wi 2=2:=by decide
 simp only[P111,S111,qe];by_cases a:qW o p=0
 case neg =>
  have hB:yA P114 o p q 0=some (.fin (0,zm (qW o p))):=(by simp[yA,zdM o p h1,zF,a]);rw[qL hB];simp[a]
 have hB:yA P114 o p q 0=some (.nx 1):=(by simp[yA,zdM o p h1,zF,a,w1]);rw[zZ hB];by_cases b:qW o q=0
 case neg =>
  have hB:yA P114 o p q 1=some (.fin (0,zm (qW o q))):=(by simp[yA,zdM o q h2,zF,b]);rw[qL hB];simp[a,b]
 have hB:yA P114 o p q 1=some (.nx 2):=(by simp[yA,zdM o q h2,zF,b,w2]);rw[zZ hB,zB (y:=2) (by simp[yA])];obtain ⟨ok,hp⟩:=zcl.1 a;obtain ⟨_,hq⟩:=zcl.1 b;have kO:∀ d∈o,d.members.length<=1000:=fun d hd=>by have:=(ok.dims d hd).len;omega
 simp only[z8,P113_eq ok hp hq,zk,P59_eq hq h2 kO,pwR,a,b,if_true];cases pwL (zfK o p q) with
 | none=>simp
 | some w=>cases wH o q<;>simp
end
end Ab
