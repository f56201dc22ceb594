import Derived.Test.YtchidgkpkhloeaaGreatDoorHO
import Derived.Test.YtchidgkpkhloeaaGreatDoorH8
import Derived.Test.YtchidgkpkhloeaaGreatDoorHK
open List (getD_eq_getElem?_getD getElem?_eq_getElem getElem?_map getElem?_range getElem_mem length_singleton length_take mem_map take_length)
open Option (map_none map_some)
open Int (toNat_natCast)
set_option linter.unusedVariables false
set_option linter.unusedSimpArgs false
set_option linter.unnecessarySimpa false
noncomputable section
namespace Ab
open Go
section
theorem P250_eq (p:List Int) (dim:Nat) (k:Int) (h1:dim < p.length) (hl:p.length<=1000):P250 p (dim:Int) k=some (p.set dim k):=by simp only[P250,S250];rw[zp (by unfold zA;omega),zp (by omega)];simp only[toNat_natCast,getElem?_eq_getElem h1,zl]
def zbx (o:List Dim) (p:List Int):List Int :=
 if byL o p < 0 then [] else
 match o[(byL o p).toNat]?,p[(byL o p).toNat]? with
 | some d,some i=>(qC d i.toNat).map fun k=>((qE o (p.set (byL o p).toNat k):Nat):Int)
 | _,_=>[]
def zdX (o:List Dim) (p:List Int):List Int:=(zbx o p).foldl zbv []
theorem zcJ {o:List Dim} {p:List Int} {x:Int}:x∈zbx o p↔∃ q,Asks o p q∧x=((qE o q:Nat):Int):=by
 unfold zbx;constructor
 ·intro h;split at h
  ·cases h
  ·rename_i hb;split at h
   ·rename_i d i hd hi;obtain ⟨k,hk,rfl⟩:=mem_map.1 h;exact ⟨_,⟨d,i,k,by omega,hd,hi,(jB _).2 k |>.1 hk,rfl⟩,rfl⟩
   ·cases h
 ·rintro ⟨q,⟨d,i,k,hb,hd,hi,hk,rfl⟩,rfl⟩;rw[if_neg (by omega),hd,hi];exact mem_map.2 ⟨k,(jB _).2 k |>.2 hk,rfl⟩
theorem zcL {o:List Dim} {p:List Int} {x:Int}:x∈zdX o p↔∃ q,Asks o p q∧x=((qE o q:Nat):Int):=by rw[← zcJ];have:=(zbl (zbx o p) [] .nil).2 x;unfold zdX;rw[this];simp
section
variable {o:List Dim} (ok:CubeOk o)
include ok
theorem wU:(o.length<=4∧0 < o.length)∧∀ d∈o,0 < d.members.length∧d.members.length<=12:=⟨⟨ok.out.len.2,ok.out.len.1⟩,fun d hd=>(ok.out.dims d hd).len⟩
theorem zh5:P326 o=some (o.map jo):=by
 obtain ⟨⟨h4,h0⟩,hm⟩:=wU ok;simp only[P326,S326];generalize hL:o.map jo=L;have hLl:L.length=o.length:=by rw[← hL];simp
 have hs:=zR (B:=zfI P321 o) (fun i=>(L.take i,(i:Int))) o.length (fun i hi=>by
  have hd:=getElem?_eq_getElem hi;have e4:wi ((i:Int)+1)=((i+1:Nat):Int):=by rw[qV (by omega) (by omega)];omega
  have hlj:L[i]? = some (jo o[i]):=by rw[← hL,getElem?_map,hd];rfl
  have hr:=ok.rules _ (getElem_mem hi);simp only[zfI];rw[zj,if_pos (by omega)];have hck:(L.take i).length+[jo o[i]].length<=zA:=by simp only[length_take,length_singleton];unfold zA;omega
  simp only[zd,hd,zl,P321_eq,hr,if_true,zp hck,qB,e4,za0 hlj])
 rw[qx,show (([]:List (List (List Int))),(0:Int))=(L.take 0,((0:Nat):Int)) from rfl,hs,zS (y:=(L.take o.length,(o.length:Int))) (by simp only[zfI];rw[zj,if_neg (by omega)];rfl)];simp only[qG];rw[← hLl,take_length]
theorem zh6 {p:List Int} (hf:Fit o p):P325 o (o.map jo) p=some (zdX o p):=by
 obtain ⟨⟨h4,h0⟩,hm⟩:=wU ok;have hlen:=hf.len;simp only[P325,S325,P337_eq hf (by omega) (fun d hd=>by have:=(hm d hd).2;omega),zl,zj];unfold zdX zbx;by_cases hb:byL o p < 0
 ·rw[if_pos hb,if_pos hb];rfl
 rw[if_neg hb,if_neg hb];obtain ⟨d,i,hd,hi,_⟩:=byL_is (show 0<=byL o p by omega);obtain ⟨b,hbn⟩:∃ b:Nat,byL o p=b:=⟨(byL o p).toNat,by omega⟩;rw[hbn] at hd hi ⊢;simp only[toNat_natCast] at hd hi ⊢;have hr:=hf.mem _ _ _ hi hd;obtain ⟨j,rfl⟩:∃ j:Nat,i=j:=⟨i.toNat,by omega⟩;have hj:j < d.members.length:=by omega
 have hdm:=List.mem_of_getElem? hd;have hru:=ok.rules d hdm;have h12:=(hm d hdm).2;have hal:(o.map jo)[b]? = some (jo d):=by rw[getElem?_map,hd];rfl
 have hbp:b < p.length:=(List.getElem?_eq_some_iff.1 hi).1;simp only[zd,hal,hi,hd,zl,zfs hj,toNat_natCast];have hnl:=yR h12 j;generalize hL:(qC d j).map (fun k=>((qE o (p.set b k):Nat):Int))=L;have hLl:L.length=(qC d j).length:=by rw[← hL];simp
 have hs:=zR (B:=zfJ zjV P250 zeD o p (b:Int) (qC d j)) (fun i=>((L.take i).foldl zbv [],(i:Int))) (qC d j).length (fun i hi'=>by
  have hx:=getElem?_eq_getElem hi';have e4:wi ((i:Int)+1)=((i+1:Nat):Int):=by rw[qV (by omega) (by omega)];omega
  obtain ⟨k,hk1,hk2,hk3⟩:=zgK hru hj ((jB _).2 _ |>.1 (getElem_mem hi'));have hlj:L[i]? = some ((qE o (p.set b (qC d j)[i]):Nat):Int):=by rw[← hL,getElem?_map,hx];rfl
  have hfk:=zdd hf hd hk2;have hle:=zbk (L.take i) [];have hle2:(L.take i).length<=L.length:=by rw[length_take];omega
  simp only[zfJ];rw[zj,if_pos (by omega)];simp only[zd,hx,zl];rw[hk1] at hlj ⊢;rw[P250_eq p b k hbp (by omega)];simp only[zl,zh7 ok.out hfk];rw[zfW _ _ (by simp only[List.length_nil] at hle;omega)];simp only[zl,qB,e4];rw[yc zbv [] _ hlj])
 rw[qx,show (([]:List Int),(0:Int))=((L.take 0).foldl zbv [],((0:Nat):Int)) from rfl,hs,zS (y:=((L.take (qC d j).length).foldl zbv [],((qC d j).length:Int))) (by simp only[zfJ];rw[zj,if_neg (by omega)];rfl)];simp only[qG];rw[← hLl,take_length]
def yX (o:List Dim):List (List Int):=(List.range (sizeN o)).map fun n=>zdX o (qL o n).1
theorem P338_eq:P338 o=some (yX o):=by
 obtain ⟨⟨h4,h0⟩,hm⟩:=wU ok;obtain ⟨h1,h2⟩:=ok.out.sizeN;simp only[P338,S338,zh5 ok,P106_eq o (by omega),h1,zl];generalize hL:yX o=L;have hLl:L.length=sizeN o:=by rw[← hL];simp[yX]
 have hs:=zR (B:=zfA P142 P325 o (o.map jo) ((sizeN o:Nat):Int)) (fun i=>(L.take i,(i:Int))) (sizeN o) (fun i hi=>by
  have e4:wi ((i:Int)+1)=((i+1:Nat):Int):=by rw[qV (by omega) (by omega)];omega
  have hlj:L[i]? = some (zdX o (qL o i).1):=by rw[← hL];unfold yX;rw[getElem?_map,getElem?_range hi];rfl
  simp only[zfA];rw[zj,if_pos (by omega)];have hck:(L.take i).length+[zdX o (qL o i).1].length<=zA:=by simp only[length_take,length_singleton];unfold zA;omega
  simp only[P142_eq o i (by omega) (by omega) (fun d hd=>⟨(hm d hd).1,by have:=(hm d hd).2;omega⟩),zl,zh6 ok (zal ok.out i),zp hck,qB,e4,za0 hlj])
 rw[qx,show (([]:List (List Int)),(0:Int))=(L.take 0,((0:Nat):Int)) from rfl,hs,zS (y:=(L.take (sizeN o),((sizeN o:Nat):Int))) (by simp only[zfA];rw[zj,if_neg (by omega)];rfl)];simp only[qG];rw[← hLl,take_length]
end
end
section
section
variable {o:List Dim} {l:List Entry} (ok:RightC o l) {cs:List Cell} (hcs:cs.length=sizeN o) (hin:∀ c∈cs,within c.n=true)
include hcs
include ok hin
end
end
section
section
variable {o:List Dim} {l:List Entry} (ok:RightC o l)
structure InvD (o:List Dim) (l:List Entry) (c:List Cell) (d:List Bool):Prop where
 lc:c.length=sizeN o
 ld:d.length=sizeN o
 ins:∀ x∈c,within x.n=true
 told:∀ i,i < sizeN o->d.getD i false=true->c.getD i ⟨0,0⟩=sol o l (qL o i).1
include ok
end
end
section
def allN0 (d:Dim):List (List Int):=if (qY d).2=0 then jo d else []
theorem zdS (o:List Dim):P342 o=some (if (zbr o).2.2=0 then (o.map jo,.nil) else ([],zE (zbr o).2.2)):=by
 simp only[P342,S342,P51_eq,zl,qe];by_cases h0:(yq o).2.2=0
 ·obtain ok:=ziq.1 h0;have hl:=ok.len;rw[decide_eq_true h0,Bool.not_true,zk];generalize hL:o.map allN0=L;have hLl:L.length=o.length:=by rw[← hL];simp
  have S:=qN (B:=zfx P340 o) (fun i=>(L.take i,(i:Int))) o.length (fun i=>(zbD o i).map fun r=>(([]:List (List (List Int))),zE r.2.2)) (d:=(L.take o.length,(o.length:Int))) (fun i hi _=>by
   have hx:=getElem?_eq_getElem hi;have e4:wi ((i:Int)+1)=((i+1:Nat):Int):=by rw[qV (by omega) (by omega)];omega
   have hlj:L[i]? = some (allN0 o[i]):=by rw[← hL,getElem?_map,hx];rfl
   simp only[zfx];rw[zj,if_pos (by omega)];simp only[zd,hx,zl,P340_eq,qe];unfold zbD;rw[hx];simp only;by_cases c:(qY o[i]).2=0
   ·have hck:(L.take i).length+[jo o[i]].length<=zA:=by simp only[length_take,length_singleton];unfold zA;omega
    simp only[c,decide_true,Bool.not_true,zk,if_true,not_true,if_false,map_none,zp hck,qB,e4];rw[← za0 hlj];unfold allN0;rw[if_pos c]
   ·simp only[c,decide_false,Bool.not_false,zn,not_false_eq_true,if_true,if_false,map_some]
    rfl) (fun _=>by simp only[zfx];rw[zj,if_neg (by omega)];rfl)
  rw[qx,show (([]:List (List (List Int))),(0:Int))=(L.take 0,((0:Nat):Int)) from rfl,S,z8];have hall:zbr o=match (List.range o.length).findSome? (zbD o) with | some r=>r | none=>(-1, -1,0):=by unfold zbr;rw[if_neg (fun h=>h h0)];rfl
  rw[hall];cases hs:(List.range o.length).findSome? (zbD o) with
  | some r =>obtain ⟨i,hi,hr⟩:=List.exists_of_findSome?_eq_some hs;have hne:=zij hr;simp only[map_some,jn_r];rw[if_neg hne]
  | none =>simp only[map_none,qG];rw[← hLl,take_length,← hL];have ck:CubeOk o:=yi.1 (by rw[hall,hs]);rw[show o.map allN0=o.map jo from List.map_congr_left fun d hd=>by unfold allN0;rw[if_pos (ck.rules d hd)]];rfl
 ·rw[decide_eq_false h0];unfold zbr;rw[if_pos h0,if_neg h0];rfl
section
variable {o:List Dim} (ok:CubeOk o)
include ok
theorem zh4 {p:List Int} (hf:Fit o p):P343 o (o.map jo) p=some (zbx o p):=by
 obtain ⟨⟨h4,h0⟩,hm⟩:=wU ok;have hlen:=hf.len;simp only[P343,S343,P353_eq hf (by omega) (fun d hd=>by have:=(hm d hd).2;omega),zl,zj];unfold zbx;by_cases hb:byL o p < 0
 ·rw[if_pos hb,if_pos hb]
 rw[if_neg hb,if_neg hb];obtain ⟨d,i,hd,hi,_⟩:=byL_is (show 0<=byL o p by omega);obtain ⟨b,hbn⟩:∃ b:Nat,byL o p=b:=⟨(byL o p).toNat,by omega⟩;rw[hbn] at hd hi ⊢;simp only[toNat_natCast] at hd hi ⊢;have hr:=hf.mem _ _ _ hi hd;obtain ⟨j,rfl⟩:∃ j:Nat,i=j:=⟨i.toNat,by omega⟩;have hj:j < d.members.length:=by omega
 have hdm:=List.mem_of_getElem? hd;have hru:=ok.rules d hdm;have h12:=(hm d hdm).2;have hal:(o.map jo)[b]? = some (jo d):=by rw[getElem?_map,hd];rfl
 have hbp:b < p.length:=(List.getElem?_eq_some_iff.1 hi).1;simp only[zd,hal,hi,hd,zl,zfs hj,toNat_natCast];have hnl:=yR h12 j;generalize hL:(qC d j).map (fun k=>((qE o (p.set b k):Nat):Int))=L;have hLl:L.length=(qC d j).length:=by rw[← hL];simp
 have hs:=zR (B:=zfw P49 P70 o p (b:Int) (qC d j)) (fun i=>(L.take i,(i:Int))) (qC d j).length (fun i hi'=>by
  have hx:=getElem?_eq_getElem hi';have e4:wi ((i:Int)+1)=((i+1:Nat):Int):=by rw[qV (by omega) (by omega)];omega
  obtain ⟨k,hk1,hk2,hk3⟩:=zgK hru hj ((jB _).2 _ |>.1 (getElem_mem hi'));have hlj:L[i]? = some ((qE o (p.set b (qC d j)[i]):Nat):Int):=by rw[← hL,getElem?_map,hx];rfl
  have hfk:=zdd hf hd hk2;simp only[zfw];rw[zj,if_pos (by omega)];simp only[zd,hx,zl];rw[hk1] at hlj ⊢;have hck:(L.take i).length+[((qE o (p.set b (k:Int)):Nat):Int)].length<=zA:=by simp only[length_take,length_singleton];unfold zA;omega
  rw[P70_eq p b k hbp (by omega)];simp only[zl,zi4 hfk.len (by rw[hfk.len];omega),zeT ok.out hfk,zp hck,qB,e4,za0 hlj])
 rw[qx,show (([]:List Int),(0:Int))=(L.take 0,((0:Nat):Int)) from rfl,hs,zS (y:=(L.take (qC d j).length,((qC d j).length:Int))) (by simp only[zfw];rw[zj,if_neg (by omega)];rfl)];simp only[qG];rw[← hLl,take_length]
end
def jV (o:List Dim):List (List Int):=(List.range (sizeN o)).map fun n=>zbx o (qL o n).1
theorem P344_eq (o:List Dim):P344 o=some (if (zbr o).2.2=0 then (jV o,.nil) else ([],zE (zbr o).2.2)):=by
 simp only[P344,S344,zdS,zl];by_cases h:(zbr o).2.2=0
 ·have ok:=yi.1 h;obtain ⟨⟨h4,h0⟩,hm⟩:=wU ok;obtain ⟨h1,h2⟩:=ok.out.sizeN;rw[if_pos h,if_pos h];simp only[yQ,Bool.not_true,zk,P40_eq o (by omega),h1,zl];generalize hL:jV o=L;have hLl:L.length=sizeN o:=by rw[← hL];simp[jV]
  have hs:=zR (B:=zfv P343s P69 o (o.map jo,.nil) ((sizeN o:Nat):Int)) (fun i=>(L.take i,(i:Int))) (sizeN o) (fun i hi=>by
   have e4:wi ((i:Int)+1)=((i+1:Nat):Int):=by rw[qV (by omega) (by omega)];omega
   have hlj:L[i]? = some (zbx o (qL o i).1):=by rw[← hL];unfold jV;rw[getElem?_map,getElem?_range hi];rfl
   have hp:P343s o (o.map jo) (qL o i).1=some (zbx o (qL o i).1):=zh4 ok (zal ok.out i);simp only[zfv];rw[zj,if_pos (by omega)];have hck:(L.take i).length+[zbx o (qL o i).1].length<=zA:=by simp only[length_take,length_singleton];unfold zA;omega
   simp only[P69_eq o i (by omega) (by omega) (fun d hd=>⟨(hm d hd).1,by have:=(hm d hd).2;omega⟩),zl,hp,zp hck,qB,e4,za0 hlj])
  rw[qx,show (([]:List (List Int)),(0:Int))=(L.take 0,((0:Nat):Int)) from rfl,hs,zS (y:=(L.take (sizeN o),((sizeN o:Nat):Int))) (by simp only[zfv];rw[zj,if_neg (by omega)];rfl)];simp only[qG];rw[← hLl,take_length]
 ·rw[if_neg h,if_neg h];simp only[qe,decide_eq_false h,Bool.not_false,zn]
end
section
section
variable {o:List Dim} (ok:CubeOk o) {n:List (List Int)} (hn:n.length=sizeN o) (hm:∀ i x,x∈n.getD i []->i < sizeN o∧∃ q,Asks o (qL o i).1 q∧x=((qE o q:Nat):Int))
include ok hn hm
theorem zfq:Rng n:=fun i k hk=>by
 obtain ⟨_,q,hq,rfl⟩:=hm i k hk;have hf:=(asks_lt ok (zal ok.out i) hq).1;have:=zaz hf;rw[hn];omega
end
section
variable {o:List Dim}
theorem ziV (i:Nat) (x:Int) (h:x∈(jV o).getD i []):i < sizeN o∧∃ q,Asks o (qL o i).1 q∧x=((qE o q:Nat):Int):=by
 unfold jV at h;rw[getD_eq_getElem?_getD,getElem?_map] at h;by_cases hi:i < sizeN o
 ·rw[getElem?_range hi] at h;exact ⟨hi,zcJ.1 h⟩
 ·rw[List.getElem?_eq_none (by rw[List.length_range];omega)] at h;cases h
theorem allT_mem (i:Nat) (x:Int) (h:x∈(yX o).getD i []):i < sizeN o∧∃ q,Asks o (qL o i).1 q∧x=((qE o q:Nat):Int):=by
 unfold yX at h;rw[getD_eq_getElem?_getD,getElem?_map] at h;by_cases hi:i < sizeN o
 ·rw[getElem?_range hi] at h;exact ⟨hi,zcL.1 h⟩
 ·rw[List.getElem?_eq_none (by rw[List.length_range];omega)] at h;cases h
theorem ziU (i k:Nat):k∈nd (jV o) i↔k∈nd (yX o) i:=by
 have:∀ x,x∈(jV o).getD i []↔x∈(yX o).getD i []:=by
  intro x;unfold jV yX;rw[getD_eq_getElem?_getD,getD_eq_getElem?_getD,getElem?_map,getElem?_map];cases (List.range (sizeN o))[i]? with
  | none=>simp
  | some j=>simp only[map_some,Option.getD_some,zcJ,zcL]
 unfold nd;simp only[mem_map,this]
end
theorem zbq {o:List Dim} (ok:CubeOk o) (p:List Int):(zbx o p).length<=30:=by
 unfold zbx;split
 ·simp
 ·split
  ·rename_i d i hd hi;rw[List.length_map];exact yR ((ok.out.dims d (List.mem_of_getElem? hd)).len).2 _
  ·simp
theorem allA_w {o:List Dim} (ok:CubeOk o) (i:Nat):((jV o).getD i []).length<=100000:=by
 unfold jV;rw[getD_eq_getElem?_getD,getElem?_map];cases (List.range (sizeN o))[i]? with
 | none=>simp
 | some j=>have:=zbq ok (qL o j).1;simp only[map_some,Option.getD_some];omega
theorem allT_w {o:List Dim} (ok:CubeOk o) (i:Nat):((yX o).getD i []).length<=100000:=by
 unfold yX;rw[getD_eq_getElem?_getD,getElem?_map];cases (List.range (sizeN o))[i]? with
 | none=>simp
 | some j =>have:=zbq ok (qL o j).1;have h2:=zbk (zbx o (qL o j).1) [];simp only[map_some,Option.getD_some];unfold zdX;simp only[List.length_nil] at h2;omega
theorem P328_eq (o:List Dim) (p:List Int) (hp:p.length<=9223372036854775807):P328 o p=some (if (zbr o).2.2=0 then (if ym o p=0 then (jA (zbx o p),.nil) else ([],zE (ym o p))) else ([],zE (zbr o).2.2)):=by
 simp only[P328,S328,zdS,zl];by_cases h:(zbr o).2.2=0
 ·rw[if_pos h,if_pos h];simp only[yQ,Bool.not_true,zk,zi3 o p hp,zl,qe];by_cases h2:ym o p=0
  ·have ok:=yi.1 h;rw[if_pos h2,decide_eq_true h2];have hl:=zbq ok p;simp only[Bool.not_true,zk,zh4 ok (zaP.1 h2),zl,P213,zp (show (zbx o p).length<=zA by unfold zA;omega),zp (show (jA (zbx o p)).length=(zbx o p).length from qq _)]
  ·rw[if_neg h2,decide_eq_false h2];rfl
 ·rw[if_neg h,if_neg h];simp only[qe,decide_eq_false h,Bool.not_false,zn]
theorem sortI_mem {l:List Int} {x:Int}:x∈jA l↔x∈l:=List.mem_mergeSort
end
end Ab
