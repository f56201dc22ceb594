import Derived.Test.YtchidgkpkhloeaaGreatDoorHJ
import Derived.Test.YtchidgkpkhloeaaGreatDoorC4
import Derived.Test.YtchidgkpkhloeaaGreatDoorF4
set_option linter.unusedVariables false
set_option linter.unusedSimpArgs false
set_option linter.unusedSectionVars false
namespace Ab
open Go
section
@[simp] theorem P92_nil (e:Int):P92 .nil e=some (decide (0=e)):=rfl
@[simp] theorem P92_no (k e:Int):P92 (.no k) e=some (decide (k=e)):=rfl
@[simp] theorem P92_errOf (k e:Int):P92 (zn k) e=some (decide (k=e)):=by
 unfold zn;split
 ·subst k;rfl
 ·rfl
end
section
def pwL:List ((Int×Dim)×Int)->Option Int
 | []=>some 1
 | x :: r=>match wl x.1.2.members x.1.1 (path x.1.2.members x.2) with | some v=>(pwL r).map fun u=>v * u | none=>none
def pwR (z:List ((Int×Dim)×Int)):Int×Bool:=match pwL z with | some w=>(w,true) | none=>(0,false)
theorem pw_gen {B:Int×Int->Option (LR (Int×Int) (Int×Bool))} (z:List ((Int×Dim)×Int)) (hr:∀ x∈z,Rooted x.1.2.members)
  (step:∀ (i:Nat) (x:(Int×Dim)×Int) (w:Int),z[i]? = some x -> -1<=w∧w<=1->B (w,(i:Int))=some (match wl x.1.2.members x.1.1 (path x.1.2.members x.2) with | some v=>.nx (w * v,(i:Int)+1) | none=>.fin (0,false)))
  (hn:∀ w,B (w,(z.length:Int))=some (.dn (w,(z.length:Int)))):lp B (1,0) (fun x=>some (x.1,true))=some (pwR z):=by
 have all:∀ (zs pre:List ((Int×Dim)×Int)) (w:Int),z=pre++zs -> -1<=w∧w<=1->jn (lpO B (w,(pre.length:Int))) (fun x=>some (x.1,true))=some (match pwL zs with | some v=>(w * v,true) | none=>(0,false)):=by
  intro zs
  induction zs with
  | nil =>
   intro pre w e hw;have e:pre=z:=by simp[e]
   subst e;rw[qp (hn w)];simp[pwL]
  | cons x r ih =>
   intro pre w e hw;have hx:z[pre.length]? = some x:=by rw[e];simp
   have hs:=step pre.length x w hx hw;simp only[pwL];cases hv:wl x.1.2.members x.1.1 (path x.1.2.members x.2) with
   | none =>
    rw[hv] at hs;rw[yP hs];rfl
   | some v =>
    rw[hv] at hs;have hvb:=wl_in (hr x (by rw[e];simp)) _ _ _ hv;rw[zac hs];have:=ih (pre++[x]) (w * v) (by rw[e];simp) (zcv hw hvb);have el:(((pre++[x]).length:Nat):Int)=(pre.length:Int)+1:=by simp
    rw[el] at this;rw[this];cases pwL r with
    | none=>rfl
    | some u=>simp[Int.mul_assoc]
 have:=all z [] 1 rfl (by omega);simp only[List.length_nil,Int.one_mul] at this;exact this
def zdD (o:List Dim) (p k:List Int):List ((Int×Dim)×Int):=(p.zip o).zip k
theorem zav {o:List Dim} {p k:List Int} {i:Nat} {x:(Int×Dim)×Int} (h:(zdD o p k)[i]? = some x):p[i]? = some x.1.1∧o[i]? = some x.1.2∧k[i]? = some x.2:=by
 obtain ⟨h1,h2⟩:=List.getElem?_zip_eq_some.1 h;obtain ⟨h3,h4⟩:=List.getElem?_zip_eq_some.1 h1;exact ⟨h3,h4,h2⟩
theorem zip3_len {o:List Dim} {p k:List Int} (h1:p.length=o.length) (h2:k.length=o.length):(zdD o p k).length=p.length:=by
 unfold zdD;rw[List.length_zip,List.length_zip];omega
section
variable {o:List Dim} {p k:List Int} (ok:OutOk o) (hp:Fit o p) (hk:Fit o k)
include ok hp hk
theorem zip3_root:∀ x∈zdD o p k,Rooted x.1.2.members:=by
 intro x hx;obtain ⟨i,hi⟩:=List.mem_iff_getElem?.1 hx;exact (ok.dims _ (List.mem_of_getElem? (zav hi).2.1)).rooted
theorem P113_eq:P113 o p k=some (pwR (zdD o p k)):=by
 have hl:=zip3_len (o:=o) hp.len hk.len;refine pw_gen _ (zip3_root ok hp hk) (fun i x w hx hw => ?_) (fun w=>by rw[hl];simp[zhA]);obtain ⟨e1,e2,e3⟩:=zav hx;have hlen:=ok.len;have hi:=(List.getElem?_eq_some_iff.1 e1).1;have hpl:=hp.len;have e:((i:Nat):Int) < ((p.length:Nat):Int):=by omega
 have hd:=ok.dims _ (List.mem_of_getElem? e2);have hkm:=hk.mem i _ _ e3 e2;obtain ⟨j,hj⟩:=Int.eq_ofNat_of_zero_le hkm.1;have hdl:=hd.len;rw[hj] at hkm e3;simp only[zhA,e,decide_true,zq,zf,e1,e2,e3,zo,P45_eq hd.rooted (by omega:x.1.2.members.length<=1000) x.1.1 (by omega:j < x.1.2.members.length),hj,wOf];rw[qX (n:=(i:Int)+1) (by omega) (by omega)];cases hv:wl x.1.2.members x.1.1 (path x.1.2.members (j:Int)) with
 | none=>simp
 | some v =>
  have hb:=zcv hw (wl_in hd.rooted _ _ _ hv);simp only[Bool.not_true,zg];rw[qX (by omega) (by omega)];rfl
end
def addE (o:List Dim) (p:List Int) (c:Int×Int) (e:Entry):Int×Int:=match pwL (zdD o p e.at_) with
 | some w=>if w=0 then c else (1,wi (c.2+wi (w * e.n)))
 | none=>c
def zdr (o:List Dim) (l:List Entry) (p:List Int):Int×Int:=l.foldl (addE o p) (0,0)
theorem P110_eq {o:List Dim} {l:List Entry} {p:List Int} (hl:Lst Entry.gd l) (hp:p.length<=9223372036854775807) :
  P110 o l p=some (if zgc o l=0 then (if jb o p=0 then (⟨(zdr o l p).1,(zdr o l p).2⟩,.nil) else (⟨0,0⟩,zn (jb o p))) else (⟨0,0⟩,zn (zgc o l))):=by
 simp only[P110,S110,P27_eq o l hl,zo,zN];by_cases h1:zgc o l=0
 case neg=>simp[h1]
 have ok:=zeQ.1 h1;simp only[h1,decide_true,Bool.not_true,zg,zec o p hp,zo,zN,if_true];by_cases h2:jb o p=0
 case neg=>simp[h2]
 have hf:=yS.1 h2;have hlen:=hl.1;have hs:=qi (B:=zdg P113 o l p) (fun i=>((i:Int),(((l.take i).foldl (addE o p) (0,0)).1,((l.take i).foldl (addE o p) (0,0)).2))) l.length (fun i hi=>by
  have e:((i:Nat):Int) < ((l.length:Nat):Int):=by omega
  have hm:=List.getElem?_eq_getElem hi;have hfe:=ok.fit _ (List.getElem_mem hi);rw[yA _ _ _ hm];simp only[zdg,e,decide_true,zq,zf,hm,zo,P113_eq ok.out hf hfe,pwR];rw[qX (n:=(i:Int)+1) (by omega) (by omega)];simp only[addE];cases pwL (zdD o p l[i].at_) with
  | none=>simp
  | some w=>by_cases hw:w=0<;>simp[hw])
 simp only[List.take_length] at hs;have hs:lpO (zdg P113 o l p) (0,(0,0))=some (.inl ((l.length:Int),((zdr o l p).1,(zdr o l p).2))):=hs.trans (qp (by simp[zdg,zdr]));simp[h2,jD,hs]
end
section
end
end Ab
