import Derived.Test.YtckaniphjiniiaaGreatDoorHJ
import Derived.Test.YtckaniphjiniiaaGreatDoorH2
import Derived.Test.YtckaniphjiniiaaGreatDoorF4
set_option linter.all false
namespace Ab
open Go
section
@[simp] def P92_nil (e:Int):P92 .nil e=some (decide (0=e)):=rfl
@[simp] def P92_no (k e:Int):P92 (.no k) e=some (decide (k=e)):=rfl
@[simp] def P92_errOf (k e:Int):P92 (zn k) e=some (decide (k=e)):=by
 unfold zn;split
 ·subst k;rfl
 ·rfl
end
section
def pwL:List ((Int×Dim)×Int)->Option Int
 | []=>some 1
 | x::r=>match wl x.1.2.members x.1.1 (path x.1.2.members x.2) with|some v=>(pwL r).map fun u=>v*u|none=>none
def pwR (z:List ((Int×Dim)×Int)):Int×Bool:=match pwL z with|some w=>(w,true)|none=>(0,false)
def pw_gen {B:Int×Int->Option (LR (Int×Int) (Int×Bool))} (z:List ((Int×Dim)×Int)) (hr:∀x∈z,Rooted x.1.2.members)
  (step:∀(i:Nat) (x:(Int×Dim)×Int) (w:Int),z[i]? = some x -> -1<=w∧w<=1->B (w,(i:Int))=some (match wl x.1.2.members x.1.1 (path x.1.2.members x.2) with|some v=>.nx (w*v,(i:Int)+1)|none=>.fin (0,false)))
  (hn:∀w,B (w,(z.length:Int))=some (.dn (w,(z.length:Int)))):lp B (1,0) (fun x=>some (x.1,true))=some (pwR z):=by
 have all:∀(zs pre:List ((Int×Dim)×Int)) (w:Int),z=pre++zs -> -1<=w∧w<=1->jn (lpO B (w,(pre.length:Int))) (fun x=>some (x.1,true))=some (match pwL zs with|some v=>(w*v,true)|none=>(0,false)):=by
  intro zs
  induction zs with
  | nil =>
   intro pre w e hw;have e:pre=z:=by simp[e]
   subst e;rw[zF (hn w)];simp[pwL]
  | cons x r ih =>
   intro pre w e hw;have hx:z[pre.length]? = some x:=by rw[e];simp
   have hs:=step pre.length x w hx hw;simp only[pwL];cases hv:wl x.1.2.members x.1.1 (path x.1.2.members x.2) with
   | none =>rw[hv] at hs;rw[jo hs];rfl
   | some v =>
    rw[hv] at hs;have kT:=wl_in (hr x (by rw[e];simp)) _ _ _ hv;rw[qh hs];have:=ih (pre++[x]) (w*v) (by rw[e];simp) (zeq hw kT);have el:(((pre++[x]).length:Nat):Int)=(pre.length:Int)+1:=by simp
    rw[el] at this;rw[this];cases pwL r with
    | none=>rfl
    | some u=>simp[DD]
 have:=all z [] 1 rfl (by omega);simp only[BI,C3] at this;exact this
def wZ (o:List Dim) (p k:List Int):List ((Int×Dim)×Int):=(p.zip o).zip k
def zbI {o:List Dim} {p k:List Int} {i:Nat} {x:(Int×Dim)×Int} (h:(wZ o p k)[i]? = some x):p[i]? = some x.1.1∧o[i]? = some x.1.2∧k[i]? = some x.2:=by obtain⟨h1,h2⟩:=Bm.1 h;obtain⟨h3,h4⟩:=Bm.1 h1;exact⟨h3,h4,h2⟩
def zip3_len {o:List Dim} {p k:List Int} (h1:p.length=o.length) (h2:k.length=o.length):(wZ o p k).length=p.length:=by unfold wZ;rw[Co,Co];omega
def zip3_root {o:List Dim} {p k:List Int} (ok:OutOk o):∀x∈wZ o p k,Rooted x.1.2.members:=by intro x hx;obtain⟨i,hi⟩:=AA.1 hx;exact (ok.dims _ (Ae (zbI hi).2.1)).rooted
section
variable {o:List Dim} {p k:List Int} (ok:OutOk o) (hp:Fit o p) (hk:Fit o k)
include ok hp hk
def P113_eq:P113 o p k=some (pwR (wZ o p k)):=by
 have hl:=zip3_len (o:=o) hp.len hk.len;refine pw_gen _ (zip3_root ok) (fun i x w hx hw => ?_) (fun w=>by rw[hl];simp[zkA]);obtain⟨e1,e2,e3⟩:=zbI hx;have hlen:=ok.len;have hi:=(Ac.1 e1).1;have fx:=hp.len;have e:((i:Nat):Int)<((p.length:Nat):Int):=by omega
 have hd:=ok.dims _ (Ae e2);have kZ:=hk.mem i _ _ e3 e2;obtain⟨j,hj⟩:=Bk kZ.1;have cJ:=hd.len;rw[hj] at kZ e3;simp only[zkA,e,decide_true,ze,zg,e1,e2,e3,zj,P45_eq hd.rooted (by omega:x.1.2.members.length<=1000) x.1.1 (by omega:j<x.1.2.members.length),hj,wOf];rw[zR (n:=(i:Int)+1) (by omega) (by omega)];cases hv:wl x.1.2.members x.1.1 (path x.1.2.members (j:Int)) with
 | none=>simp
 | some v =>have hb:=zeq hw (wl_in hd.rooted _ _ _ hv);simp only[AW,za];rw[zR (by omega) (by omega)];rfl
end
def zhC (o:List Dim) (p:List Int) (c:Int×Int) (e:Entry):Int×Int:=match pwL (wZ o p e.at_) with
 | some w=>if w=0 then c else (1,wi (c.2+wi (w*e.n)))
 | none=>c
def zcr (o:List Dim) (l:List Entry) (p:List Int):Int×Int:=l.foldl (zhC o p) (0,0)
end
section
def sR (l:List Member) (i:Int):(qi l i).length<=l.length:=zaZ _ _
def zo (o:List Dim) (p:List Int):List (List Int):=(p.zip o).foldl (fun out x=>out.flatMap fun q=>(qi x.2.members x.1).map fun k=>q++[k]) [[]]
def L1_eq (y5 y7:List Int) (acc:List (List Int)) (h:acc.length+y7.length<=1000000) (h5:y5.length<=1000):lpO (zfm y5 y7) (acc,0)=some (.inl (acc++y7.map (fun k=>y5++[k]),(y7.length:Int))):=by
 have hs:=zP (B:=zfm y5 y7) (fun i=>(acc++(y7.take i).map (fun k=>y5++[k]),(i:Int))) y7.length (fun i hi=>by
  have e:((i:Nat):Int)<((y7.length:Nat):Int):=by omega
  have c1:y5.length<=zC:=by unfold zC;omega
  have c2:y5.length+1<=zC:=by unfold zC;omega
  have c3:(acc++(y7.take i).map (fun k=>y5++[k])).length+1<=zC:=by simp;unfold zC;omega
  have et:(y7.take (i+1)).map (fun k=>y5++[k])=(y7.take i).map (fun k=>y5++[k])++[y5++[y7[i]]]:=(by rw[Cd hi,Bc];rfl);simp only[zfm,e,decide_true,ze,zg,Aa hi,zj,Bj,zm c1,zm c2,zm c3,ji,et];rw[zR (by omega) (by omega),AP];rfl)
 simp only[BA,Ci,Bn,Bl] at hs;exact hs.trans (zF (by simp[zfm]))
def L2_eq {o:List Dim} (out:List (List Int)) (i:Nat) (d:Dim) (m:Int) (hd:o[i]? = some d) (hr:Rooted d.members) (hm:d.members.length<=12) (h:out.length*12<=1000000-100) (hq:∀q∈out,q.length<=1000) :
  lpO (zfl P46 o (out,(i:Int)) m) ([],0)=some (.inl (out.flatMap (fun q=>(qi d.members m).map fun k=>q++[k]),(out.length:Int))):=by
 have tI:=sR d.members m;have hlen:∀l:List (List Int),(l.flatMap fun q=>(qi d.members m).map fun k=>q++[k]).length=l.length*(qi d.members m).length:=by
  intro l
  induction l with
  | nil=>simp
  | cons a l ih=>rw[BC,AB,ih,Aq,Ax,Bb,Nat.one_mul,DG]
 have hs:=zP (B:=zfl P46 o (out,(i:Int)) m) (fun j=>((out.take j).flatMap (fun q=>(qi d.members m).map fun k=>q++[k]),(j:Int))) out.length (fun j hj=>by
  have e:((j:Nat):Int)<((out.length:Nat):Int):=by omega
  have nE:=hq _ (Ay hj);have et:(out.take (j+1)).flatMap (fun q=>(qi d.members m).map fun k=>q++[k])=(out.take j).flatMap (fun q=>(qi d.members m).map fun k=>q++[k])++(qi d.members m).map fun k=>out[j]++[k]:=(by rw[Cd hj,DB];simp);have hb:((out.take j).flatMap (fun q=>(qi d.members m).map fun k=>q++[k])).length+(qi d.members m).length<=1000000:=(by rw[hlen,A3,Nat.min_eq_left (by omega)];have:j*(qi d.members m).length<=out.length*12:=B7 (by omega) (by omega);omega);simp only[zfl,e,decide_true,ze,zg,Aa hj,hd,zj,P46_eq hr (by omega:d.members.length<=1000),zW,L1_eq _ _ _ hb nE,zY,ji,et];rw[zR (by omega) (by omega)];rfl)
 simp only[BA,Ci,List.flatMap_nil] at hs;exact hs.trans (zF (by simp[zfl]))
def fold_prop {o:List Dim} {p:List Int} (ok:OutOk o) (hf:Fit o p):∀i,i<=p.length->(((p.zip o).take i).foldl (fun out x=>out.flatMap fun q=>(qi x.2.members x.1).map fun k=>q++[k]) [[]]).length<=12 ^ i ∧
  ∀q∈(((p.zip o).take i).foldl (fun out x=>out.flatMap fun q=>(qi x.2.members x.1).map fun k=>q++[k]) [[]]),q.length=i:=by
 intro i
 induction i with
 | zero=>intro _;simp
 | succ i ih =>
  intro hi;obtain⟨h1,h2⟩:=ih (by omega);have fx:=hf.len;have hx:(p.zip o)[i]? = some (p[i],o[i]'(by omega)):=Bm.2 ⟨Aa (by omega),Aa (by omega)⟩;have hd:=ok.dims _ (Ay (by omega:i<o.length));have tI:=sR o[i].members p[i];have cJ:=hd.len;rw[yE _ _ _ hx];generalize ((p.zip o).take i).foldl (fun out x=>out.flatMap fun q=>(qi x.2.members x.1).map fun k=>q++[k]) [[]]=out at h1 h2;have hlen:∀l:List (List Int),(l.flatMap fun q=>(qi o[i].members p[i]).map fun k=>q++[k]).length=l.length*(qi o[i].members p[i]).length:=by
   intro l
   induction l with
   | nil=>simp
   | cons a l ih=>rw[BC,AB,ih,Aq,Ax,Bb,Nat.one_mul,DG]
  refine⟨?_,fun q hq => ?_⟩
  ·show (out.flatMap fun q=>(qi o[i].members p[i]).map fun k=>q++[k]).length<=_;rw[hlen,Nat.pow_succ];exact B7 h1 (by omega)
  ·obtain⟨q0,gP,nF⟩:=BW.1 hq;obtain⟨k,_,rfl⟩:=Al.1 nF;simp[h2 q0 gP]
def jm (o:List Dim) (p:List Int):Int:=if (je o).2.2=0 then jv o p else (je o).2.2
def zfq (o:List Dim) (p:List Int) (h:p.length<=9223372036854775807):P114 o p=some (zn (jm o p)):=by simp only[P114,S114,P51_eq,zj,zB,jm];by_cases h0:(je o).2.2=0<;>simp[h0,zjo o p h]
def zdF {o:List Dim} {p:List Int}:jm o p=0↔OutOk o∧Fit o p:=by
 unfold jm;by_cases h0:(je o).2.2=0
 ·rw[if_pos h0,jB];exact⟨fun h=>⟨zbf.1 h0,h⟩,fun h=>h.2⟩
 ·rw[if_neg h0];exact⟨fun h=>absurd h h0,fun h=>absurd (zbf.2 h.1) h0⟩
def P127_eq (o:List Dim) (p:List Int) (h:p.length<=9223372036854775807):P127 o p=some (if jm o p=0 then (zo o p,.nil) else ([],zn (jm o p))):=by
 simp only[P127,S127,zfq o p h,zj,zB];by_cases h0:jm o p=0
 case neg=>simp[h0]
 obtain⟨ok,hf⟩:=zdF.1 h0;have fx:=hf.len;have gz:=ok.len;have hz:(p.zip o).length=p.length:=by rw[Co,←fx,De]
 have hs:=zP (B:=zfk P46 o p) (fun i=>(((p.zip o).take i).foldl (fun out x=>out.flatMap fun q=>(qi x.2.members x.1).map fun k=>q++[k]) [[]],(i:Int))) p.length (fun i hi=>by
  have e:((i:Nat):Int)<((p.length:Nat):Int):=by omega
  obtain⟨h1,h2⟩:=fold_prop ok hf i (by omega);have gQ:=pow_le (by omega:i<=4);have hx:(p.zip o)[i]? = some (p[i],o[i]'(by omega)):=Bm.2 ⟨Aa hi,Aa (by omega)⟩;have hd:=ok.dims _ (Ay (by omega:i<o.length));have cJ:=hd.len;rw[yE _ _ _ hx];generalize ((p.zip o).take i).foldl (fun out x=>out.flatMap fun q=>(qi x.2.members x.1).map fun k=>q++[k]) [[]]=out at h1 h2;have:=L2_eq (o:=o) out i o[i] p[i] (Aa (by omega)) hd.rooted (by omega) (by omega) (fun q hq=>by rw[h2 q hq];omega);simp only[zfk,e,decide_true,ze,zg,Aa hi,zj,zW,this,zY,ji];rw[zR (by omega) (by omega)];rfl)
 have ht:(p.zip o).take p.length=p.zip o:=by rw[←hz,BA]
 rw[ht] at hs;have hs:lpO (zfk P46 o p) ([[]],0)=some (.inl (zo o p,(p.length:Int))):=hs.trans (zF (by simp[zfk,zo]));simp[h0,zW,hs]
def zcB (o:List Dim) (p q:List Int):Bool:=jX o q && (pwL (wZ o p q)).isSome
def zjh (x:Int×Dim) (k:Int):Bool:=(wl x.2.members x.1 (path x.2.members k)).isSome && yi x.2.members k.toNat
def zjg:∀(o:List Dim) (p q:List Int),p.length=o.length->q.length=o.length->zcB o p q=zjl ((p.zip o).map zjh) q
 | [],[],[],_,_=>rfl
 | d::o,m::p,k::q,h1,h2=>by
  simp only[Ax,C7] at h1 h2;have ih:=zjg o p q h1 h2;have e1:jX (d::o) (k::q)=(yi d.members k.toNat && jX o q):=rfl;have e2:wZ (d::o) (m::p) (k::q)=((m,d),k)::wZ o p q:=rfl;simp only[DE,Aw,zjl,←ih];unfold zcB;rw[e1,e2];simp only[pwL,zjh];cases wl d.members m (path d.members k) with
  | none=>simp
  | some v=>cases yi d.members k.toNat<;>simp
 | [],_::_,_,h1,_=>by simp at h1
 | _::_,[],_,h1,_=>by simp at h1
 | [],[],_::_,_,h2=>by simp at h2
 | _::_,_::_,[],_,h2=>by simp at h2
def zipF:∀(o:List Dim) (p:List Int),p.length=o.length->List.zipWith (fun f l=>l.filter f) ((p.zip o).map zjh) (o.map fun d=>(List.range d.members.length).map fun (k:Nat)=>(k:Int))=(p.zip o).map fun x=>qi x.2.members x.1
 | [],[],_=>rfl
 | d::o,m::p,h=>by
  simp only[Ax,C7] at h;simp only[DE,Aw,List.zipWith_cons_cons,zipF o p h];congr 1;rw[List.filter_map];rfl
 | [],_::_,h=>by simp at h
 | _::_,[],h=>by simp at h
def zaX {o:List Dim} {p:List Int} (ok:OutOk o) (hf:Fit o p):((List.range (sizeN o)).map fun n=>(jw o n).1).filter (zcB o p)=zo o p:=by
 have aO:∀d∈o,0<d.members.length:=fun d hd=>(ok.dims d hd).len.1
 have e1:((List.range (sizeN o)).map fun n=>(jw o n).1).filter (zcB o p)=((List.range (sizeN o)).map fun n=>(jw o n).1).filter (zjl ((p.zip o).map zjh)) :=
  List.filter_congr fun q hq=>by
   obtain⟨n,_,rfl⟩:=Al.1 hq;exact zjg o p _ hf.len (zhg o n)
 have hz:((p.zip o).map zjh).length=(o.map fun d=>(List.range d.members.length).map fun (k:Nat)=>(k:Int)).length:=(by rw[Aq,Aq,Co,hf.len,De]);rw[e1,zjU o aO,zeH _ _ hz,zipF o p hf.len];unfold zo;have:=zjc ((p.zip o).map fun x=>qi x.2.members x.1) [[]];rw[List.foldl_map] at this;rw[this];simp
def P111_eq (o:List Dim) (p q:List Int) (h1:p.length<=9223372036854775807) (h2:q.length<=9223372036854775807):P111 o p q=some (if jm o p=0 then (if jm o q=0 then (if ((pwL (wZ o p q)).isSome && jX o q)=true then ((pwR (wZ o p q)).1,.nil) else (0,.no 3)) else (0,zn (jm o q))) else (0,zn (jm o p))):=by
 have w1:wi 1=1:=by decide
 have w2:wi 2=2:=by decide
 simp only[P111,S111,zW];by_cases a:jm o p=0
 case neg =>
  have hB:wC P114 o p q 0=some (.fin (0,zn (jm o p))):=(by simp[wC,zfq o p h1,zB,a]);rw[jo hB];simp[a]
 have hB:wC P114 o p q 0=some (.nx 1):=(by simp[wC,zfq o p h1,zB,a,w1]);rw[qh hB];by_cases b:jm o q=0
 case neg =>
  have hB:wC P114 o p q 1=some (.fin (0,zn (jm o q))):=(by simp[wC,zfq o q h2,zB,b]);rw[jo hB];simp[a,b]
 have hB:wC P114 o p q 1=some (.nx 2):=(by simp[wC,zfq o q h2,zB,b,w2]);rw[qh hB,zF (y:=2) (by simp[wC])];obtain⟨ok,hp⟩:=zdF.1 a;obtain⟨_,hq⟩:=zdF.1 b;have fA:∀d∈o,d.members.length<=1000:=fun d hd=>by have:=(ok.dims d hd).len;omega
 simp only[zY,P113_eq ok hp hq,zj,P59_eq hq h2 fA,pwR,a,b,if_true];cases pwL (wZ o p q) with
 | none=>simp
 | some w=>cases jX o q<;>simp
end
end Ab
