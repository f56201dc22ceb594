import Derived.Test.YtchidgkpkhloeaaGreatDoorHO
import Derived.Test.YtchidgkpkhloeaaGreatDoorH8
import Derived.Test.YtchidgkpkhloeaaGreatDoorHK
open List (getD_eq_getElem?_getD getElem?_eq_getElem getElem?_map getElem_mem length_take mem_map mem_of_getElem? take_length)
open Int (toNat_natCast)
set_option linter.unusedVariables false
set_option linter.unusedSimpArgs false
set_option linter.unnecessarySimpa false
noncomputable section
namespace Ab
open Go
section
theorem zih (p:List Int) (dim:Nat) (k:Int) (h1:dim < p.length) (hl:p.length<=1000):P250 p (dim:Int) k=some (p.set dim k):=by
 simp only[P250,S250];rw[zp (by unfold zy;omega),zp (by omega)];simp only[toNat_natCast,getElem?_eq_getElem h1,zk]
def askN (o:List Dim) (p:List Int):List Int :=
 if byL o p < 0 then [] else
 match o[(byL o p).toNat]?,p[(byL o p).toNat]? with
 | some d,some i=>(qW d i.toNat).map fun k=>((wC o (p.set (byL o p).toNat k):Nat):Int)
 | _,_=>[]
def zbs (o:List Dim) (p:List Int):List Int:=(askN o p).foldl zbp []
theorem askN_mem {o:List Dim} {p:List Int} {x:Int}:x∈askN o p↔∃ q,Asks o p q∧x=((wC o q:Nat):Int):=by
 unfold askN;constructor
 ·intro h;split at h
  ·cases h
  ·rename_i hb;split at h
   ·rename_i d i hd hi;obtain ⟨k,hk,rfl⟩:=mem_map.1 h;exact ⟨_,⟨d,i,k,by omega,hd,hi,(wH _).2 k |>.1 hk,rfl⟩,rfl⟩
   ·cases h
 ·rintro ⟨q,⟨d,i,k,hb,hd,hi,hk,rfl⟩,rfl⟩;rw[if_neg (by omega),hd,hi];exact mem_map.2 ⟨k,(wH _).2 k |>.2 hk,rfl⟩
theorem zcN {o:List Dim} {p:List Int} {x:Int}:x∈zbs o p↔∃ q,Asks o p q∧x=((wC o q:Nat):Int):=by
 rw[← askN_mem];have:=(zdh (askN o p) [] .nil).2 x;unfold zbs;rw[this];simp
section
variable {o:List Dim} (ok:CubeOk o)
include ok
theorem zdt:(o.length<=4∧0 < o.length)∧∀ d∈o,0 < d.members.length∧d.members.length<=12:=⟨⟨ok.out.len.2,ok.out.len.1⟩,fun d hd=>(ok.out.dims d hd).len⟩
theorem P326_eq:P326 o=some (o.map yB):=by
 obtain ⟨⟨h4,h0⟩,hm⟩:=zdt ok;simp only[P326,S326];generalize hL:o.map yB=L;have hLl:L.length=o.length:=by rw[← hL];simp
 have hs:=zO (B:=zfM P321 o) (fun i=>(L.take i,(i:Int))) o.length (fun i hi=>by
  have hd:=getElem?_eq_getElem hi;have e4:wi ((i:Int)+1)=((i+1:Nat):Int):=by rw[qH (by omega) (by omega)];omega
  have hlj:L[i]? = some (yB o[i]):=by rw[← hL,getElem?_map,hd];rfl
  have hr:=ok.rules _ (getElem_mem hi);simp only[zfM];rw[zm,if_pos (by omega)];have hck:(L.take i).length+[yB o[i]].length<=zy:=by simp only[length_take,List.length_singleton];unfold zy;omega
  simp only[za,hd,zk,P321_eq,hr,if_true,zp hck,jw,e4,zaT hlj])
 rw[qp,show (([]:List (List (List Int))),(0:Int))=(L.take 0,((0:Nat):Int)) from rfl,hs,zV (y:=(L.take o.length,(o.length:Int))) (by simp only[zfM];rw[zm,if_neg (by omega)];rfl)];simp only[qb];rw[← hLl,take_length]
theorem P325_eq {p:List Int} (hf:Fit o p):P325 o (o.map yB) p=some (zbs o p):=by
 obtain ⟨⟨h4,h0⟩,hm⟩:=zdt ok;have hlen:=hf.len;simp only[P325,S325,zig hf (by omega) (fun d hd=>by have:=(hm d hd).2;omega),zk,zm];unfold zbs askN;by_cases hb:byL o p < 0
 ·rw[if_pos hb,if_pos hb];rfl
 rw[if_neg hb,if_neg hb];obtain ⟨d,i,hd,hi,_⟩:=byL_is (show 0<=byL o p by omega);obtain ⟨b,hbn⟩:∃ b:Nat,byL o p=b:=⟨(byL o p).toNat,by omega⟩;rw[hbn] at hd hi ⊢;simp only[toNat_natCast] at hd hi ⊢;have hr:=hf.mem _ _ _ hi hd;obtain ⟨j,rfl⟩:∃ j:Nat,i=j:=⟨i.toNat,by omega⟩;have hj:j < d.members.length:=by omega
 have hdm:=mem_of_getElem? hd;have hru:=ok.rules d hdm;have h12:=(hm d hdm).2;have hal:(o.map yB)[b]? = some (yB d):=by rw[getElem?_map,hd];rfl
 have hbp:b < p.length:=(List.getElem?_eq_some_iff.1 hi).1;simp only[za,hal,hi,hd,zk,zjd hj,toNat_natCast];have hnl:=wM h12 j;generalize hL:(qW d j).map (fun k=>((wC o (p.set b k):Nat):Int))=L;have hLl:L.length=(qW d j).length:=by rw[← hL];simp
 have hs:=zO (B:=zfN P140 P250 zeM o p (b:Int) (qW d j)) (fun i=>((L.take i).foldl zbp [],(i:Int))) (qW d j).length (fun i hi'=>by
  have hx:=getElem?_eq_getElem hi';have e4:wi ((i:Int)+1)=((i+1:Nat):Int):=by rw[qH (by omega) (by omega)];omega
  obtain ⟨k,hk1,hk2,hk3⟩:=zi0 hru hj ((wH _).2 _ |>.1 (getElem_mem hi'));have hlj:L[i]? = some ((wC o (p.set b (qW d j)[i]):Nat):Int):=by rw[← hL,getElem?_map,hx];rfl
  have hfk:=zdi hf hd hk2;have hle:=zbf (L.take i) [];have hle2:(L.take i).length<=L.length:=by rw[length_take];omega
  simp only[zfN];rw[zm,if_pos (by omega)];simp only[za,hx,zk];rw[hk1] at hlj ⊢;rw[zih p b k hbp (by omega)];simp only[zk,zf6 ok.out hfk];rw[zf1 _ _ (by simp only[List.length_nil] at hle;omega)];simp only[zk,jw,e4];rw[jh zbp [] _ hlj])
 rw[qp,show (([]:List Int),(0:Int))=((L.take 0).foldl zbp [],((0:Nat):Int)) from rfl,hs,zV (y:=((L.take (qW d j).length).foldl zbp [],((qW d j).length:Int))) (by simp only[zfN];rw[zm,if_neg (by omega)];rfl)];simp only[qb];rw[← hLl,take_length]
def zh6 (o:List Dim):List (List Int):=(List.range (sizeN o)).map fun n=>zbs o (jt o n).1
theorem P338_eq:P338 o=some (zh6 o):=by
 obtain ⟨⟨h4,h0⟩,hm⟩:=zdt ok;obtain ⟨h1,h2⟩:=ok.out.sizeN;simp only[P338,S338,P326_eq ok,P106_eq o (by omega),h1,zk];generalize hL:zh6 o=L;have hLl:L.length=sizeN o:=by rw[← hL];simp[zh6]
 have hs:=zO (B:=zfI P142 P325 o (o.map yB) ((sizeN o:Nat):Int)) (fun i=>(L.take i,(i:Int))) (sizeN o) (fun i hi=>by
  have e4:wi ((i:Int)+1)=((i+1:Nat):Int):=by rw[qH (by omega) (by omega)];omega
  have hlj:L[i]? = some (zbs o (jt o i).1):=by rw[← hL];unfold zh6;rw[getElem?_map,List.getElem?_range hi];rfl
  simp only[zfI];rw[zm,if_pos (by omega)];have hck:(L.take i).length+[zbs o (jt o i).1].length<=zy:=by simp only[length_take,List.length_singleton];unfold zy;omega
  simp only[P142_eq o i (by omega) (by omega) (fun d hd=>⟨(hm d hd).1,by have:=(hm d hd).2;omega⟩),zk,P325_eq ok (zbj ok.out i),zp hck,jw,e4,zaT hlj])
 rw[qp,show (([]:List (List Int)),(0:Int))=(L.take 0,((0:Nat):Int)) from rfl,hs,zV (y:=(L.take (sizeN o),((sizeN o:Nat):Int))) (by simp only[zfI];rw[zm,if_neg (by omega)];rfl)];simp only[qb];rw[← hLl,take_length]
end
end
section
section
variable {o:List Dim} {l:List Entry} (ok:RightC o l) {cs:List Cell} (hcs:cs.length=sizeN o) (hin:∀ c∈cs,zK c.n=true)
include hcs
theorem cs_get {q:List Int} (hf:Fit o q):zn cs ((wC o q:Nat):Int)=some (cs.getD (wC o q) ⟨0,0⟩):=by
 rw[za,getD_eq_getElem?_getD,getElem?_eq_getElem (by rw[hcs];exact za1 hf)];rfl
include ok hin
theorem P354_eq {p:List Int} (hf:Fit o p):P354 o l p cs=some (zbt o l (fun q=>cs.getD (wC o q) ⟨0,0⟩) p):=by
 have hl:=ok.cube.out.len;have hlen:=hf.len;have h12:=ok.most;unfold zbt;simp only[P354,S354];rw[zig hf (by omega) fun d hd=>by have:=h12 d hd;omega];simp only[zk];rw[zm];by_cases hb:byL o p < 0
 ·rw[if_pos hb,if_pos hb,P134_eq ok.len (by omega)];rfl
 rw[if_neg hb,if_neg hb];obtain ⟨d,i,hd,hi,_⟩:=byL_is (show 0<=byL o p by omega);obtain ⟨b,hbn⟩:∃ b:Nat,byL o p=b:=⟨(byL o p).toNat,by omega⟩;rw[hbn] at hd hi ⊢;simp only[toNat_natCast] at hd hi ⊢;have hr:=hf.mem _ _ _ hi hd;obtain ⟨j,rfl⟩:∃ j:Nat,i=j:=⟨i.toNat,by omega⟩;have hj:j < d.members.length:=by omega
 have hm:=getElem?_eq_getElem hj;have hdm:=mem_of_getElem? hd;have hru:=ok.cube.rules d hdm;have hd12:=h12 d hdm;have hbp:b < p.length:=(List.getElem?_eq_some_iff.1 hi).1;simp only[za,hd,hi,zk,toNat_natCast,hm];rw[zm];by_cases hfo:(d.members[j]).formula=⟨#[]⟩
 ·rw[if_neg (fun c=>c hfo),if_pos hfo];rw[zij (show d.members.length<=1000 by omega)];simp only[zk];have hpl:(zC d.members j).length<=1000:=Nat.le_trans (zah _ _) (by omega);generalize hF:(fun (c:Cell) (k:Int)=>if sgn d.members k=0 then c else zau c (cs.getD (wC o (p.set b k)) ⟨0,0⟩) (sgn d.members k))=F;have hs:=zO (B:=zfB P140 P146 P250 o p cs (b:Int) d (zC d.members j)) (fun i=>((i:Int),(((zC d.members j).take i).foldl F ⟨0,0⟩).k,(((zC d.members j).take i).foldl F ⟨0,0⟩).n)) (zC d.members j).length (fun i hi'=>by
   have hx:=getElem?_eq_getElem hi';have hmem:=getElem_mem hi';generalize hc:((zC d.members j).take i).foldl F ⟨0,0⟩=c;rw[jh F ⟨0,0⟩ _ hx,hc];generalize (zC d.members j)[i]=x at hx hmem;obtain ⟨k,rfl,hk⟩:=zaa hmem;have hmk:=getElem?_eq_getElem hk;have hsg:sgn d.members (k:Int)=(d.members[k]).sign:=by unfold sgn;rw[toNat_natCast,hmk]
   have e4:wi ((i:Int)+1)=((i+1:Nat):Int):=by rw[qH (by omega) (by omega)];omega
   have hfk:=zdi hf hd hk;simp only[zfB];rw[zm,if_pos (by omega)];simp only[za,hx,hmk,zk];rw[← hF];simp only[hsg];by_cases h0:(d.members[k]).sign=0
   ·simp only[h0,not_true,decide_false,zg,zu,qb,e4,if_true];rfl
   ·have hg:=cs_get hcs hfk;rw[za] at hg;simp only[h0,not_false_eq_true,decide_true,zo,zih p b k hbp (by omega),zk,zf6 ok.cube.out hfk,za,hg,zii,zu,qb,e4,if_false]
    rfl)
  rw[qp,show ((0:Int),((0:Int),(0:Int)))=(((0:Nat):Int),(((zC d.members j).take 0).foldl F ⟨0,0⟩).k,(((zC d.members j).take 0).foldl F ⟨0,0⟩).n) from rfl,hs];rw[zV (y:=(((zC d.members j).length:Int),(((zC d.members j).take (zC d.members j).length).foldl F ⟨0,0⟩).k,(((zC d.members j).take (zC d.members j).length).foldl F ⟨0,0⟩).n)) (by simp only[zfB];rw[zm,if_neg (by omega)];rfl)];simp only[qb,take_length]
 ·rw[if_pos hfo,if_neg hfo];have hok:=rdT_ok (zbz hru hm hfo);have h30:=zeX (d.members[j]).formula;have hpos:=hok.pos;have hrl:=zjJ (rdT (d.members[j]).formula).1;simp only[P247_eq,zk,P243_eq _ (show (rdT (d.members[j]).formula).1.length<=1000000 by omega)];generalize hN:ym (rdT (d.members[j]).formula).1=N at hrl;generalize hL:N.map (fun s=>cs.getD (wC o (p.set b (zT d.members s))) ⟨0,0⟩)=L;have hLl:L.length=N.length:=by rw[← hL];simp
  have hs:=zO (B:=zfC P140 P250 P96 o p cs (b:Int) d N) (fun i=>(L.take i,(i:Int))) N.length (fun i hi'=>by
   have hx:=getElem?_eq_getElem hi';have hmem:N[i]∈ym (rdT (d.members[j]).formula).1:=by rw[hN];exact getElem_mem hi'
   obtain ⟨k,hk1,hk2,hk3⟩:=zi0 hru hj (zhu hm hfo hmem);have hlj:L[i]? = some (cs.getD (wC o (p.set b (zT d.members N[i]))) ⟨0,0⟩):=by rw[← hL,getElem?_map,hx];rfl
   have e4:wi ((i:Int)+1)=((i+1:Nat):Int):=by rw[qH (by omega) (by omega)];omega
   have hfk:=zdi hf hd hk2;have hg:=cs_get hcs hfk;rw[hk1] at hlj;rw[za] at hg;simp only[zfC];rw[zm,if_pos (by omega)];have hck:(L.take i).length+[cs.getD (wC o (p.set b (k:Int))) ⟨0,0⟩].length<=zy:=by simp only[length_take,List.length_singleton];unfold zy;omega
   simp only[za,hx,zk,P96_eq d N[i] (by omega),hk1,zih p b k hbp (by omega),zf6 ok.cube.out hfk,hg,zp hck,jw,e4,zaT hlj])
  rw[qp,show (([]:List Cell),(0:Int))=(L.take 0,((0:Nat):Int)) from rfl,hs,zV (y:=(L.take N.length,(N.length:Int))) (by simp only[zfC];rw[zm,if_neg (by omega)];rfl)];simp only[qb];rw[← hLl,take_length];have e5:wi (((rdT (d.members[j]).formula).1.length:Int) - 1)=(((rdT (d.members[j]).formula).1.length - 1:Nat):Int):=by rw[qH (by omega) (by omega)];omega
  rw[e5];have key:P292 (rdT (d.members[j]).formula).1 (((rdT (d.members[j]).formula).1.length - 1:Nat):Int) N L=some ((evL (rdT (d.members[j]).formula).1 N L (rdT (d.members[j]).formula).1.length).getD ((rdT (d.members[j]).formula).1.length - 1) ⟨0,0⟩):=by
   show zg9 _ _ _ N L=_;refine P292n_eq hok (by omega) hLl.symm (fun c hc => ?_) (fun x hx h2=>by rw[← hN];exact zbA.2 ⟨x,hx,h2,rfl⟩) _ _ (by rw[toNat_natCast];omega) (by omega);rw[← hL] at hc;obtain ⟨s,_,rfl⟩:=mem_map.1 hc;rw[getD_eq_getElem?_getD];cases hq:cs[wC o (p.set b (zT d.members s))]? with
   | none=>rfl
   | some c=>exact hin c (mem_of_getElem? hq)
  rw[key];rfl
end
end
section
def zi8 (d:List Bool):Nat:=d.count true
theorem cnt_le (d:List Bool):zi8 d<=d.length:=List.count_le_length
theorem cnt_set:∀ (d:List Bool) (i:Nat),d[i]? = some false->zi8 (d.set i true)=zi8 d+1
 | [],i,h=>by simp at h
 | b :: d,0,h=>by
  simp only[List.getElem?_cons_zero,Option.some.injEq] at h;subst h;simp[zi8]
 | b :: d,i+1,h=>by
  have:=cnt_set d i (by simpa using h);unfold zi8 at this ⊢;rw[List.set_cons_succ,List.count_cons,List.count_cons,this];omega
theorem zde {d:List Bool} {i:Nat} (h:i < d.length):d[i]? = some (d.getD i false):=by
 rw[getD_eq_getElem?_getD,getElem?_eq_getElem h];rfl
theorem getB_set {d:List Bool} {i j:Nat} (h:i < d.length):(d.set i true).getD j false=if j=i then true else d.getD j false:=by
 simp only[getD_eq_getElem?_getD,List.getElem?_set];by_cases e:i=j
 ·subst e;simp[h]
 ·rw[if_neg e,if_neg (fun c=>e c.symm)]
section
variable {o:List Dim} {l:List Entry} (ok:RightC o l)
def zaY (o:List Dim) (d:List Bool) (i:Nat):Prop:=d.getD i false=false∧∀ x∈zbs o (jt o i).1,d.getD x.toNat false=true
structure InvD (o:List Dim) (l:List Entry) (c:List Cell) (d:List Bool):Prop where
 lc:c.length=sizeN o
 ld:d.length=sizeN o
 ins:∀ x∈c,zK x.n=true
 told:∀ i,i < sizeN o->d.getD i false=true->c.getD i ⟨0,0⟩=sol o l (jt o i).1
include ok
omit ok in
theorem allT_get {i:Nat} (hi:i < sizeN o):(zh6 o)[i]? = some (zbs o (jt o i).1):=by
 unfold zh6;rw[getElem?_map,List.getElem?_range hi];rfl
theorem zeP {i:Nat} {x:Int} (hx:x∈zbs o (jt o i).1):∃ q,Asks o (jt o i).1 q∧x=((wC o q:Nat):Int)∧wC o q < sizeN o∧Fit o q∧(jt o (wC o q)).1=q:=by
 obtain ⟨q,hq,rfl⟩:=zcN.1 hx;have hf:=(wZ ok.cube (zbj ok.cube.out i) hq).1;exact ⟨q,hq,rfl,za1 hf,hf,by rw[wc ok.pos hf]⟩
theorem told_len (i:Nat):(zbs o (jt o i).1).length<=30:=by
 have:=zbf (askN o (jt o i).1) [];unfold zbs;refine Nat.le_trans this ?_;simp only[List.length_nil,Nat.zero_add];unfold askN;split
 ·simp
 ·split
  ·rename_i d j hd hj;rw[List.length_map];exact wM (ok.most d (mem_of_getElem? hd)) _
  ·simp
theorem zjK {i:Nat} (hi:i < sizeN o) {ag:Bool} {c:List Cell} {d:List Bool} (hd:d.length=sizeN o):∃ f k,lpO (zfL (zh6 o) (ag,(i:Int),c,d)) (!d.getD i false,(0:Int))=some (.inl (f,k))∧(f=true↔zaY o d i):=by
 have hg:=allT_get hi;have hlen:=told_len ok i;generalize hL:zbs o (jt o i).1=L at hg hlen
 obtain ⟨r,h1,h2⟩:=zad (B:=zfL (zh6 o) (ag,(i:Int),c,d)) (fun x=>∃ k:Nat,x.2=(k:Int)∧k<=L.length∧(x.1=true->d.getD i false=false∧∀ j y,j < k->L[j]? = some y->d.getD y.toNat false=true)∧(x.1=false->¬ zaY o d i)) (fun x=>L.length - x.2.toNat)
  (fun r=>∃ f k,r=.inl (f,k)∧(f=true↔zaY o d i)) (fun x hx=>by
   obtain ⟨b,x2⟩:=x;obtain ⟨k,hk,hle,ht,hfalse⟩:=hx;have hk:x2=(k:Int):=hk;subst hk;simp only[zfL,za,hg,zk];rw[zm];by_cases hlt:k < L.length
   ·rw[if_pos (by omega)];cases b with
    | false =>
     simp only[zu,qb,zg,zj1];exact ⟨false,_,rfl,by simp;exact hfalse rfl⟩
    | true =>
     have hx:=getElem?_eq_getElem hlt;obtain ⟨q,hq,e,hq2,_,_⟩:=zeP ok (i:=i) (x:=L[k]) (by rw[hL];exact getElem_mem hlt);simp only[zu,qb,zo,hx,zk,e];rw[zp (by omega),toNat_natCast,zde (by omega)];simp only[zk,jw];obtain ⟨t1,t2⟩:=ht rfl;refine ⟨⟨k+1,by rw[qH (by omega) (by omega)];omega,by omega,fun hb=>⟨t1,fun j y hj hy => ?_⟩,fun hb hr => ?_⟩, ?_⟩
     ·by_cases ej:j=k
      ·subst ej;rw[hx] at hy;obtain rfl:=Option.some.inj hy;rw[e,toNat_natCast];exact hb
      ·exact t2 j y (by omega) hy
     ·have:=hr.2 L[k] (by rw[hL];exact getElem_mem hlt);rw[e,toNat_natCast] at this;rw[this] at hb;cases hb
     ·show L.length - (wi ((k:Int)+1)).toNat < L.length - ((k:Int)).toNat;rw[qH (by omega) (by omega)];omega
   ·rw[if_neg (by omega)];simp only[zu,qb,zg,zj1];refine ⟨b,_,rfl, ?_⟩;cases b with
    | false=>simp;exact hfalse rfl
    | true =>
     obtain ⟨t1,t2⟩:=ht rfl;simp only[true_iff];refine ⟨t1,fun x hx => ?_⟩;rw[hL] at hx;obtain ⟨j,hj,rfl⟩:=List.getElem_of_mem hx;exact t2 j _ (by omega) (getElem?_eq_getElem hj)) (!d.getD i false,(0:Int)) ⟨0,rfl,by omega,fun h=>⟨by simpa using h,fun j y hj=>absurd hj (by omega)⟩,fun h hr=>by
    have:=hr.1;simp only[this,Bool.not_false] at h;cases h⟩
 obtain ⟨f,k,rfl,h3⟩:=h2;exact ⟨f,k,h1,h3⟩
theorem tell_now {c:List Cell} {d:List Bool} (h:InvD o l c d) {i:Nat} (hi:i < sizeN o) (hr:zaY o d i):P354 o l (jt o i).1 c=some (sol o l (jt o i).1):=by
 have hf:=zbj ok.cube.out i;rw[P354_eq ok h.lc h.ins hf,sol_eq ok.cube hf];congr 1;refine zaD hf fun q hq => ?_;obtain ⟨q',hq',e,h1,h2,h3⟩:=zeP ok (zcN.2 ⟨q,hq,rfl⟩);have hfq:=(wZ ok.cube hf hq).1;have:=h.told (wC o q) (za1 hfq) (by have:=hr.2 _ (zcN.2 ⟨q,hq,rfl⟩);rwa [toNat_natCast] at this);rw[this,wc ok.pos hfq]
theorem zjI {c0:List Cell} {d0:List Bool} (h0:InvD o l c0 d0):∃ ag i c d,lpO (zfK P142 P354 o l (zh6 o)) (false,(0:Int),c0,d0)=some (.inl (ag,i,c,d))∧InvD o l c d∧(ag=true->zi8 d0 < zi8 d)∧(ag=false->d=d0∧c=c0∧∀ j,j < sizeN o->¬ zaY o d0 j):=by
 have hlen:=ok.cube.out.len;obtain ⟨_,h2⟩:=ok.cube.out.sizeN;have hTl:(zh6 o).length=sizeN o:=by simp[zh6]
 obtain ⟨r,h1,hq⟩:=zad (B:=zfK P142 P354 o l (zh6 o)) (fun x=>∃ i:Nat,x.2.1=(i:Int)∧i<=sizeN o∧InvD o l x.2.2.1 x.2.2.2∧zi8 d0<=zi8 x.2.2.2∧(x.1=true->zi8 d0 < zi8 x.2.2.2)∧(x.1=false->x.2.2.2=d0∧x.2.2.1=c0∧∀ j,j < i->¬ zaY o d0 j)) (fun x=>sizeN o - x.2.1.toNat)
  (fun r=>∃ ag i c d,r=.inl (ag,i,c,d)∧InvD o l c d∧(ag=true->zi8 d0 < zi8 d)∧(ag=false->d=d0∧c=c0∧∀ j,j < sizeN o->¬ zaY o d0 j)) (fun x hx=>by
   obtain ⟨ag,x2,c,d⟩:=x;obtain ⟨i,hi,hle,hI,hm,ht,hf⟩:=hx;have hi:x2=(i:Int):=hi;subst hi;simp only at hI hm ht hf;simp only[zfK];rw[zm,hTl];by_cases hlt:i < sizeN o
   ·rw[if_pos (by omega),zp (by have:=hI.ld;omega),toNat_natCast,zde (by have:=hI.ld;omega)];simp only[zk];obtain ⟨f,k,hl1,hl2⟩:=zjK ok hlt (ag:=ag) (c:=c) (d:=d) hI.ld;rw[qp,hl1];simp only[qb];have e4:wi ((i:Int)+1)=((i+1:Nat):Int):=by rw[qH (by omega) (by omega)];omega
    have hmu:sizeN o - (((i+1:Nat):Int)).toNat < sizeN o - ((i:Int)).toNat:=by omega
    cases f with
    | true =>
     have hr:=hl2.1 rfl;simp only[zo,P142_eq o i (by omega) (by omega) (fun d hd=>⟨ok.pos d hd,by have:=ok.most d hd;omega⟩),zk,tell_now ok hI hlt hr];have hci:c[i]? = some (c.getD i ⟨0,0⟩):=by rw[getD_eq_getElem?_getD,getElem?_eq_getElem (by have:=hI.lc;omega)];rfl
     rw[zp (by have:=hI.lc;omega),zp (by have:=hI.ld;omega),hci];simp only[zk,zu,qb,jw,e4];have hdi:d[i]? = some false:=by rw[zde (by have:=hI.ld;omega),hr.1]
     have hcs:=cnt_set d i hdi;refine ⟨⟨i+1,rfl,by omega,⟨by rw[List.length_set];exact hI.lc,by rw[List.length_set];exact hI.ld,fun x hx => ?_,fun j hj hdj => ?_⟩,by omega,fun _=>by omega,fun h=>by cases h⟩,hmu⟩
     ·rcases List.mem_or_eq_of_mem_set hx with h | rfl
      ·exact hI.ins x h
      ·exact sol_in ok.val _
     ·rw[getB_set (by have:=hI.ld;omega)] at hdj;rw[getD_eq_getElem?_getD,List.getElem?_set];by_cases e:i=j
      ·subst e;simp only[if_true,hI.lc,hj];rfl
      ·rw[if_neg e,← getD_eq_getElem?_getD];rw[if_neg (fun c=>e c.symm)] at hdj;exact hI.told j hj hdj
    | false =>
     simp only[zg,zu,qb,jw,e4];refine ⟨⟨i+1,rfl,by omega,hI,hm,ht,fun h => ?_⟩,hmu⟩;obtain ⟨e1,e2,e3⟩:=hf h;refine ⟨e1,e2,fun j hj => ?_⟩;by_cases e:j=i
     ·subst e;rw[← e1];exact fun hr=>by have:=hl2.2 hr;cases this
     ·exact e3 j (by omega)
   ·rw[if_neg (by omega)];simp only[zj1];refine ⟨ag,_,c,d,rfl,hI,ht,fun h => ?_⟩;obtain ⟨e1,e2,e3⟩:=hf h;exact ⟨e1,e2,fun j hj=>e3 j (by omega)⟩) (false,(0:Int),c0,d0) ⟨0,rfl,by omega,h0,Nat.le_refl _,(fun h=>by cases h),fun _=>⟨rfl,rfl,fun j hj=>absurd hj (by omega)⟩⟩
 obtain ⟨ag,i,c,d,rfl,k1,k2,k3⟩:=hq;exact ⟨ag,i,c,d,h1,k1,k2,k3⟩
theorem all_done {d:List Bool} (h:∀ j,j < sizeN o->¬ zaY o d j):∀ (r:Nat) (i:Nat),i < sizeN o->rkP o (jt o i).1=r->d.getD i false=true:=by
 intro r
 induction r using Nat.strongRecOn with
 | _ r ih =>
  intro i hi hr;cases hd:d.getD i false with
  | true=>rfl
  | false =>
   refine absurd ⟨hd,fun x hx => ?_⟩ (h i hi);obtain ⟨q,hq,rfl,h1,h2,h3⟩:=zeP ok hx;rw[toNat_natCast];have:=(wZ ok.cube (zbj ok.cube.out i) hq).2;exact ih (rkP o q) (by omega) (wC o q) h1 (by rw[h3])
theorem P336_eq:P336 o l=some (allC o l):=by
 obtain ⟨_,h2⟩:=ok.cube.out.sizeN;have hTl:(zh6 o).length=sizeN o:=by simp[zh6]
 simp only[P336,S336,P338_eq ok.cube,zk,hTl];have hck:(0:Int)<=((sizeN o:Nat):Int)∧((sizeN o:Nat):Int)<=((sizeN o:Nat):Int)∧((sizeN o:Nat):Int)<=zy:=⟨by omega,Int.le_refl _,by unfold zy;omega⟩;simp only[zp hck,toNat_natCast]
 obtain ⟨r,h1,hq⟩:=zad (B:=zh8 P142 P354 o l (zh6 o)) (fun x=>InvD o l x.2.1 x.2.2∧(x.1=false->∀ j,j < sizeN o->¬ zaY o x.2.2 j)) (fun x=>2 * (sizeN o - zi8 x.2.2)+(if x.1=true then 1 else 0))
  (fun r=>∃ ag d,r=.inl (ag,allC o l,d)) (fun x hx=>by
   obtain ⟨ag,c,d⟩:=x;obtain ⟨hI,hf⟩:=hx;simp only at hI hf;simp only[zh8];cases ag with
   | true =>
    obtain ⟨ag',i,c',d',e1,e2,e3,e4⟩:=zjI ok hI;simp only[zo];rw[qp,e1];simp only[qb,jw];have hle:=cnt_le d';have hld:=e2.ld;refine ⟨⟨e2,fun h => ?_⟩, ?_⟩
    ·obtain ⟨rfl,rfl,e5⟩:=e4 h;exact e5
    ·cases ag' with
     | true =>
      have:=e3 rfl;simp only[if_true];omega
     | false =>
      obtain ⟨rfl,_,_⟩:=e4 rfl;simp
   | false =>
    simp only[zg,zj1];refine ⟨false,d, ?_⟩;have hall:=all_done ok (hf rfl);have:c=allC o l:=by
     refine List.ext_getElem? fun i => ?_;by_cases hi:i < sizeN o
     ·have h3:=hI.told i hi (hall _ i hi rfl);unfold allC;rw[getElem?_map,List.getElem?_range hi,getElem?_eq_getElem (by have:=hI.lc;omega)];rw[getD_eq_getElem?_getD,getElem?_eq_getElem (by have:=hI.lc;omega)] at h3;exact congrArg some h3
     ·rw[List.getElem?_eq_none (by have:=hI.lc;omega),List.getElem?_eq_none (by rw[allC_len];omega)]
    rw[this]) (true,List.replicate (sizeN o) (Cell.mk 0 0),List.replicate (sizeN o) false) ⟨⟨by simp,by simp,fun x hx=>by rw[(List.mem_replicate.1 hx).2];rfl,fun i hi h=>by
    rw[getD_eq_getElem?_getD,List.getElem?_replicate,if_pos hi] at h;cases h⟩,fun h=>by cases h⟩
 obtain ⟨ag,d,rfl⟩:=hq;rw[qp,h1];rfl
end
theorem P335_eq (o:List Dim) (l:List Entry) (hl:Lst Entry.gd l):P335 o l=some (wo o l):=by
 simp only[P335,S335,P324_eq,zk,zm];unfold wo;by_cases h:(zeI o).2.2=0
 ·rw[if_pos h,if_pos h,P122_eq o l hl];rfl
 ·rw[if_neg h,if_neg h];rfl
end
section
section
variable {o:List Dim} (ok:CubeOk o)
include ok
end
end
section
section
variable {o:List Dim} (ok:CubeOk o) {n:List (List Int)} (hn:n.length=sizeN o) (hm:∀ i x,x∈n.getD i []->i < sizeN o∧∃ q,Asks o (jt o i).1 q∧x=((wC o q:Nat):Int))
include ok hn hm
end
section
variable {o:List Dim}
end
end
end Ab
