import Derived.Test.YtkaifdgeigdbhaaGreatDoorHJ
import Derived.Test.YtkaifdgeigdbhaaGreatDoorH2
import Derived.Test.YtkaifdgeigdbhaaGreatDoorF4
set_option linter.all false
namespace Ab
open Go
section
@[simp] def P92_nil (e:Int):P92 .nil e=some (decide (0=e)):=rfl
@[simp] def P92_no (k e:Int):P92 (.no k) e=some (decide (k=e)):=rfl
@[simp] def P92_errOf (k e:Int):P92 (zk k) e=some (decide (k=e)):=by
 unfold zk;split
 ·subst k;rfl
 ·rfl
end
section
def pwL:List ((Int×Dim)×Int)->Option Int
 | []=>some 1
 | x :: r=>match wl x.1.2.members x.1.1 (path x.1.2.members x.2) with | some v=>(pwL r).map fun u=>v * u | none=>none
def pwR (z:List ((Int×Dim)×Int)):Int×Bool:=match pwL z with | some w=>(w,true) | none=>(0,false)
def pw_gen {B:Int×Int->Option (LR (Int×Int) (Int×Bool))} (z:List ((Int×Dim)×Int)) (hr:∀ x∈z,Rooted x.1.2.members)
  (step:∀ (i:Nat) (x:(Int×Dim)×Int) (w:Int),z[i]? = some x -> -1<=w∧w<=1->B (w,(i:Int))=some (match wl x.1.2.members x.1.1 (path x.1.2.members x.2) with | some v=>.nx (w * v,(i:Int)+1) | none=>.fin (0,false)))
  (hn:∀ w,B (w,(z.length:Int))=some (.dn (w,(z.length:Int)))):lp B (1,0) (fun x=>some (x.1,true))=some (pwR z):=by
 have all:∀ (zs pre:List ((Int×Dim)×Int)) (w:Int),z=pre++zs -> -1<=w∧w<=1->jn (lpO B (w,(pre.length:Int))) (fun x=>some (x.1,true))=some (match pwL zs with | some v=>(w * v,true) | none=>(0,false)):=by
  intro zs
  induction zs with
  | nil =>
   intro pre w e hw;have e:pre=z:=by simp[e]
   subst e;rw[zE (hn w)];simp[pwL]
  | cons x r ih =>
   intro pre w e hw;have hx:z[pre.length]? = some x:=by rw[e];simp
   have hs:=step pre.length x w hx hw;simp only[pwL];cases hv:wl x.1.2.members x.1.1 (path x.1.2.members x.2) with
   | none =>rw[hv] at hs;rw[jd hs];rfl
   | some v =>
    rw[hv] at hs;have iC:=wl_in (hr x (by rw[e];simp)) _ _ _ hv;rw[z8 hs];have:=ih (pre++[x]) (w * v) (by rw[e];simp) (zfJ hw iC);have el:(((pre++[x]).length:Nat):Int)=(pre.length:Int)+1:=by simp
    rw[el] at this;rw[this];cases pwL r with
    | none=>rfl
    | some u=>simp[Int.mul_assoc]
 have:=all z [] 1 rfl (by omega);simp only[BB,CO] at this;exact this
def zbG (o:List Dim) (p k:List Int):List ((Int×Dim)×Int):=(p.zip o).zip k
def ziP {o:List Dim} {p k:List Int} {i:Nat} {x:(Int×Dim)×Int} (h:(zbG o p k)[i]? = some x):p[i]? = some x.1.1∧o[i]? = some x.1.2∧k[i]? = some x.2:=by obtain ⟨h1,h2⟩:=Bv.1 h;obtain ⟨h3,h4⟩:=Bv.1 h1;exact ⟨h3,h4,h2⟩
def zip3_len {o:List Dim} {p k:List Int} (h1:p.length=o.length) (h2:k.length=o.length):(zbG o p k).length=p.length:=by unfold zbG;rw[Ce,Ce];omega
def zip3_root {o:List Dim} {p k:List Int} (ok:OutOk o):∀ x∈zbG o p k,Rooted x.1.2.members:=by intro x hx;obtain ⟨i,hi⟩:=AJ.1 hx;exact (ok.dims _ (Ad (ziP hi).2.1)).rooted
section
variable {o:List Dim} {p k:List Int} (ok:OutOk o) (hp:Fit o p) (hk:Fit o k)
include ok hp hk
def P113_eq:P113 o p k=some (pwR (zbG o p k)):=by
 have hl:=zip3_len (o:=o) hp.len hk.len;refine pw_gen _ (zip3_root ok) (fun i x w hx hw => ?_) (fun w=>by rw[hl];simp[ziJ]);obtain ⟨e1,e2,e3⟩:=ziP hx;have hlen:=ok.len;have hi:=(Ac.1 e1).1;have eY:=hp.len;have e:((i:Nat):Int) < ((p.length:Nat):Int):=by omega
 have hd:=ok.dims _ (Ad e2);have iH:=hk.mem i _ _ e3 e2;obtain ⟨j,hj⟩:=B2 iH.1;have cO:=hd.len;rw[hj] at iH e3;simp only[ziJ,e,decide_true,zh,zi,e1,e2,e3,zj,P45_eq hd.rooted (by omega:x.1.2.members.length<=1000) x.1.1 (by omega:j < x.1.2.members.length),hj,wOf];rw[zN (n:=(i:Int)+1) (by omega) (by omega)];cases hv:wl x.1.2.members x.1.1 (path x.1.2.members (j:Int)) with
 | none=>simp
 | some v =>have hb:=zfJ hw (wl_in hd.rooted _ _ _ hv);simp only[AU,za];rw[zN (by omega) (by omega)];rfl
end
def zgh (o:List Dim) (p:List Int) (c:Int×Int) (e:Entry):Int×Int:=match pwL (zbG o p e.at_) with
 | some w=>if w=0 then c else (1,wi (c.2+wi (w * e.n)))
 | none=>c
def zcF (o:List Dim) (l:List Entry) (p:List Int):Int×Int:=l.foldl (zgh o p) (0,0)
def P110_eq {o:List Dim} {l:List Entry} {p:List Int} (hl:Lst Entry.gd l) (hp:p.length<=9223372036854775807) :
  P110 o l p=some (if zcO o l=0 then (if jB o p=0 then (⟨(zcF o l p).1,(zcF o l p).2⟩,.nil) else (⟨0,0⟩,zk (jB o p))) else (⟨0,0⟩,zk (zcO o l))):=by
 simp only[P110,S110,P27_eq o l hl,zj,zt];by_cases h1:zcO o l=0
 case neg=>simp[h1]
 have ok:=gq.1 h1;simp only[h1,decide_true,AU,za,zjJ o p hp,zj,zt,if_true];by_cases h2:jB o p=0
 case neg=>simp[h2]
 have hf:=ye.1 h2;have hlen:=hl.1;have hs:=qe (B:=zeu P113 o l p) (fun i=>((i:Int),(((l.take i).foldl (zgh o p) (0,0)).1,((l.take i).foldl (zgh o p) (0,0)).2))) l.length (fun i hi=>by
  have e:((i:Nat):Int) < ((l.length:Nat):Int):=by omega
  have hm:=Aa hi;have kP:=ok.fit _ (Az hi);rw[zah _ _ _ hm];simp only[zeu,e,decide_true,zh,zi,hm,zj,P113_eq ok.out hf kP,pwR];rw[zN (n:=(i:Int)+1) (by omega) (by omega)];simp only[zgh];cases pwL (zbG o p l[i].at_) with
  | none=>simp
  | some w=>by_cases hw:w=0<;>simp[hw])
 simp only[BJ] at hs;have hs:lpO (zeu P113 o l p) (0,(0,0))=some (.inl ((l.length:Int),((zcF o l p).1,(zcF o l p).2))):=hs.trans (zE (by simp[zeu,zcF]));simp[h2,z7,hs]
end
section
def ph (l:List Member) (i:Int):(qa l i).length<=l.length:=lI _ _
def zm (o:List Dim) (p:List Int):List (List Int):=(p.zip o).foldl (fun out x=>out.flatMap fun q=>(qa x.2.members x.1).map fun k=>q++[k]) [[]]
def L1_eq (y5 y7:List Int) (acc:List (List Int)) (h:acc.length+y7.length<=1000000) (h5:y5.length<=1000):lpO (zet y5 y7) (acc,0)=some (.inl (acc++y7.map (fun k=>y5++[k]),(y7.length:Int))):=by
 have hs:=qe (B:=zet y5 y7) (fun i=>(acc++(y7.take i).map (fun k=>y5++[k]),(i:Int))) y7.length (fun i hi=>by
  have e:((i:Nat):Int) < ((y7.length:Nat):Int):=by omega
  have c1:y5.length<=zP:=by unfold zP;omega
  have c2:y5.length+1<=zP:=by unfold zP;omega
  have c3:(acc++(y7.take i).map (fun k=>y5++[k])).length+1<=zP:=by simp;unfold zP;omega
  have et:(y7.take (i+1)).map (fun k=>y5++[k])=(y7.take i).map (fun k=>y5++[k])++[y5++[y7[i]]]:=(by rw[Ch hi,Bc];rfl);simp only[zet,e,decide_true,zh,zi,Aa hi,zj,BR,zC c1,zC c2,zC c3,j9,et];rw[zN (by omega) (by omega),AG];rfl)
 simp only[BJ,BL,Bk,Bq] at hs;exact hs.trans (zE (by simp[zet]))
def L2_eq {o:List Dim} (out:List (List Int)) (i:Nat) (d:Dim) (m:Int) (hd:o[i]? = some d) (hr:Rooted d.members) (hm:d.members.length<=12) (h:out.length * 12<=1000000 - 100) (hq:∀ q∈out,q.length<=1000) :
  lpO (zes P46 o (out,(i:Int)) m) ([],0)=some (.inl (out.flatMap (fun q=>(qa d.members m).map fun k=>q++[k]),(out.length:Int))):=by
 have rh:=ph d.members m;have hlen:∀ l:List (List Int),(l.flatMap fun q=>(qa d.members m).map fun k=>q++[k]).length=l.length * (qa d.members m).length:=by
  intro l
  induction l with
  | nil=>simp
  | cons a l ih=>rw[Bt,Ax,ih,Ap,As,A6,Nat.one_mul,CA]
 have hs:=qe (B:=zes P46 o (out,(i:Int)) m) (fun j=>((out.take j).flatMap (fun q=>(qa d.members m).map fun k=>q++[k]),(j:Int))) out.length (fun j hj=>by
  have e:((j:Nat):Int) < ((out.length:Nat):Int):=by omega
  have lX:=hq _ (Az hj);have et:(out.take (j+1)).flatMap (fun q=>(qa d.members m).map fun k=>q++[k])=(out.take j).flatMap (fun q=>(qa d.members m).map fun k=>q++[k])++(qa d.members m).map fun k=>out[j]++[k]:=(by rw[Ch hj,Dd];simp);have hb:((out.take j).flatMap (fun q=>(qa d.members m).map fun k=>q++[k])).length+(qa d.members m).length<=1000000:=(by rw[hlen,A4,Nat.min_eq_left (by omega)];have:j * (qa d.members m).length<=out.length * 12:=BN (by omega) (by omega);omega);simp only[zes,e,decide_true,zh,zi,Aa hj,hd,zj,P46_eq hr (by omega:d.members.length<=1000),z7,L1_eq _ _ _ hb lX,zV,j9,et];rw[zN (by omega) (by omega)];rfl)
 simp only[BJ,BL,List.flatMap_nil] at hs;exact hs.trans (zE (by simp[zes]))
def fold_prop {o:List Dim} {p:List Int} (ok:OutOk o) (hf:Fit o p):∀ i,i<=p.length->(((p.zip o).take i).foldl (fun out x=>out.flatMap fun q=>(qa x.2.members x.1).map fun k=>q++[k]) [[]]).length<=12 ^ i ∧
  ∀ q∈(((p.zip o).take i).foldl (fun out x=>out.flatMap fun q=>(qa x.2.members x.1).map fun k=>q++[k]) [[]]),q.length=i:=by
 intro i
 induction i with
 | zero=>intro _;simp
 | succ i ih =>
  intro hi;obtain ⟨h1,h2⟩:=ih (by omega);have eY:=hf.len;have hx:(p.zip o)[i]? = some (p[i],o[i]'(by omega)):=Bv.2 ⟨Aa (by omega),Aa (by omega)⟩;have hd:=ok.dims _ (Az (by omega:i < o.length));have rh:=ph o[i].members p[i];have cO:=hd.len;rw[zah _ _ _ hx];generalize ((p.zip o).take i).foldl (fun out x=>out.flatMap fun q=>(qa x.2.members x.1).map fun k=>q++[k]) [[]]=out at h1 h2;have hlen:∀ l:List (List Int),(l.flatMap fun q=>(qa o[i].members p[i]).map fun k=>q++[k]).length=l.length * (qa o[i].members p[i]).length:=by
   intro l
   induction l with
   | nil=>simp
   | cons a l ih=>rw[Bt,Ax,ih,Ap,As,A6,Nat.one_mul,CA]
  refine ⟨?_,fun q hq => ?_⟩
  ·show (out.flatMap fun q=>(qa o[i].members p[i]).map fun k=>q++[k]).length<=_;rw[hlen,Nat.pow_succ];exact BN h1 (by omega)
  ·obtain ⟨q0,fK,hq1⟩:=BK.1 hq;obtain ⟨k,_,rfl⟩:=Al.1 hq1;simp[h2 q0 fK]
def jc (o:List Dim) (p:List Int):Int:=if (jk o).2.2=0 then jB o p else (jk o).2.2
def zez (o:List Dim) (p:List Int) (h:p.length<=9223372036854775807):P114 o p=some (zk (jc o p)):=by simp only[P114,S114,P51_eq,zj,zt,jc];by_cases h0:(jk o).2.2=0<;>simp[h0,zjJ o p h]
def lR {o:List Dim} {p:List Int}:jc o p=0↔OutOk o∧Fit o p:=by
 unfold jc;by_cases h0:(jk o).2.2=0
 ·rw[if_pos h0,ye];exact ⟨fun h=>⟨zdv.1 h0,h⟩,fun h=>h.2⟩
 ·rw[if_neg h0];exact ⟨fun h=>absurd h h0,fun h=>absurd (zdv.2 h.1) h0⟩
def P127_eq (o:List Dim) (p:List Int) (h:p.length<=9223372036854775807):P127 o p=some (if jc o p=0 then (zm o p,.nil) else ([],zk (jc o p))):=by
 simp only[P127,S127,zez o p h,zj,zt];by_cases h0:jc o p=0
 case neg=>simp[h0]
 obtain ⟨ok,hf⟩:=lR.1 h0;have eY:=hf.len;have fN:=ok.len;have hz:(p.zip o).length=p.length:=by rw[Ce,← eY,Dg]
 have hs:=qe (B:=zer P46 o p) (fun i=>(((p.zip o).take i).foldl (fun out x=>out.flatMap fun q=>(qa x.2.members x.1).map fun k=>q++[k]) [[]],(i:Int))) p.length (fun i hi=>by
  have e:((i:Nat):Int) < ((p.length:Nat):Int):=by omega
  obtain ⟨h1,h2⟩:=fold_prop ok hf i (by omega);have iF:=pow_le (by omega:i<=4);have hx:(p.zip o)[i]? = some (p[i],o[i]'(by omega)):=Bv.2 ⟨Aa hi,Aa (by omega)⟩;have hd:=ok.dims _ (Az (by omega:i < o.length));have cO:=hd.len;rw[zah _ _ _ hx];generalize ((p.zip o).take i).foldl (fun out x=>out.flatMap fun q=>(qa x.2.members x.1).map fun k=>q++[k]) [[]]=out at h1 h2;have:=L2_eq (o:=o) out i o[i] p[i] (Aa (by omega)) hd.rooted (by omega) (by omega) (fun q hq=>by rw[h2 q hq];omega);simp only[zer,e,decide_true,zh,zi,Aa hi,zj,z7,this,zV,j9];rw[zN (by omega) (by omega)];rfl)
 have ht:(p.zip o).take p.length=p.zip o:=by rw[← hz,BJ]
 rw[ht] at hs;have hs:lpO (zer P46 o p) ([[]],0)=some (.inl (zm o p,(p.length:Int))):=hs.trans (zE (by simp[zer,zm]));simp[h0,z7,hs]
def zbZ (o:List Dim) (p q:List Int):Bool:=yw o q && (pwL (zbG o p q)).isSome
def zhH (x:Int×Dim) (k:Int):Bool:=(wl x.2.members x.1 (path x.2.members k)).isSome && zcH x.2.members k.toNat
def zhG:∀ (o:List Dim) (p q:List Int),p.length=o.length->q.length=o.length->zbZ o p q=zhK ((p.zip o).map zhH) q
 | [],[],[],_,_=>rfl
 | d :: o,m :: p,k :: q,h1,h2=>by
  simp only[As,CP] at h1 h2;have ih:=zhG o p q h1 h2;have e1:yw (d :: o) (k :: q)=(zcH d.members k.toNat && yw o q):=rfl;have e2:zbG (d :: o) (m :: p) (k :: q)=((m,d),k) :: zbG o p q:=rfl;simp only[List.zip_cons_cons,Aq,zhK,← ih];unfold zbZ;rw[e1,e2];simp only[pwL,zhH];cases wl d.members m (path d.members k) with
  | none=>simp
  | some v=>cases zcH d.members k.toNat<;>simp
 | [],_ :: _,_,h1,_=>by simp at h1
 | _ :: _,[],_,h1,_=>by simp at h1
 | [],[],_ :: _,_,h2=>by simp at h2
 | _ :: _,_ :: _,[],_,h2=>by simp at h2
def zipF:∀ (o:List Dim) (p:List Int),p.length=o.length->List.zipWith (fun f l=>l.filter f) ((p.zip o).map zhH) (o.map fun d=>(List.range d.members.length).map fun (k:Nat)=>(k:Int))=(p.zip o).map fun x=>qa x.2.members x.1
 | [],[],_=>rfl
 | d :: o,m :: p,h=>by
  simp only[As,CP] at h;simp only[List.zip_cons_cons,Aq,List.zipWith_cons_cons,zipF o p h];congr 1;rw[List.filter_map];rfl
 | [],_ :: _,h=>by simp at h
 | _ :: _,[],h=>by simp at h
def zax {o:List Dim} {p:List Int} (ok:OutOk o) (hf:Fit o p):((List.range (sizeN o)).map fun n=>(zdZ o n).1).filter (zbZ o p)=zm o p:=by
 have aT:∀ d∈o,0 < d.members.length:=fun d hd=>(ok.dims d hd).len.1
 have e1:((List.range (sizeN o)).map fun n=>(zdZ o n).1).filter (zbZ o p)=((List.range (sizeN o)).map fun n=>(zdZ o n).1).filter (zhK ((p.zip o).map zhH)) :=
  List.filter_congr fun q hq=>by
   obtain ⟨n,_,rfl⟩:=Al.1 hq;exact zhG o p _ hf.len (zjr o n)
 have hz:((p.zip o).map zhH).length=(o.map fun d=>(List.range d.members.length).map fun (k:Nat)=>(k:Int)).length:=(by rw[Ap,Ap,Ce,hf.len,Dg]);rw[e1,zia o aT,zdO _ _ hz,zipF o p hf.len];unfold zm;have:=zhC ((p.zip o).map fun x=>qa x.2.members x.1) [[]];rw[List.foldl_map] at this;rw[this];simp
def P111_eq (o:List Dim) (p q:List Int) (h1:p.length<=9223372036854775807) (h2:q.length<=9223372036854775807):P111 o p q=some (if jc o p=0 then (if jc o q=0 then (if ((pwL (zbG o p q)).isSome && yw o q)=true then ((pwR (zbG o p q)).1,.nil) else (0,.no 3)) else (0,zk (jc o q))) else (0,zk (jc o p))):=by
 have w1:wi 1=1:=by decide
 have w2:wi 2=2:=by decide
 simp only[P111,S111,z7];by_cases a:jc o p=0
 case neg =>
  have hB:yV P114 o p q 0=some (.fin (0,zk (jc o p))):=(by simp[yV,zez o p h1,zt,a]);rw[jd hB];simp[a]
 have hB:yV P114 o p q 0=some (.nx 1):=(by simp[yV,zez o p h1,zt,a,w1]);rw[z8 hB];by_cases b:jc o q=0
 case neg =>
  have hB:yV P114 o p q 1=some (.fin (0,zk (jc o q))):=(by simp[yV,zez o q h2,zt,b]);rw[jd hB];simp[a,b]
 have hB:yV P114 o p q 1=some (.nx 2):=(by simp[yV,zez o q h2,zt,b,w2]);rw[z8 hB,zE (y:=2) (by simp[yV])];obtain ⟨ok,hp⟩:=lR.1 a;obtain ⟨_,hq⟩:=lR.1 b;have mf:∀ d∈o,d.members.length<=1000:=fun d hd=>by have:=(ok.dims d hd).len;omega
 simp only[zV,P113_eq ok hp hq,zj,P59_eq hq h2 mf,pwR,a,b,if_true];cases pwL (zbG o p q) with
 | none=>simp
 | some w=>cases yw o q<;>simp
end
end Ab
