import Derived.Test.YtchidgkpkhloeaaGreatDoorHO
import Derived.Test.YtchidgkpkhloeaaGreatDoorH8
import Derived.Test.YtchidgkpkhloeaaGreatDoorHK
open List (getElem?_map length_take mem_map take_length)
open Option (map_none map_some)
set_option linter.unusedVariables false
set_option linter.unusedSimpArgs false
set_option linter.unnecessarySimpa false
noncomputable section
namespace Ab
open Go
section
def zfG (o:List Dim) (p:List Int):List Int :=
 if byL o p < 0 then [] else
 match o[(byL o p).toNat]?,p[(byL o p).toNat]? with
 | some d,some i=>(jz d i.toNat).map fun k=>((jG o (p.set (byL o p).toNat k):Nat):Int)
 | _,_=>[]
def toldL (o:List Dim) (p:List Int):List Int:=(zfG o p).foldl insI []
theorem askN_mem {o:List Dim} {p:List Int} {x:Int}:x∈zfG o p↔∃ q,Asks o p q∧x=((jG o q:Nat):Int):=by
 unfold zfG;constructor
 ·intro h;split at h
  ·cases h
  ·rename_i hb;split at h
   ·rename_i d i hd hi;obtain ⟨k,hk,rfl⟩:=mem_map.1 h;exact ⟨_,⟨d,i,k,by omega,hd,hi,(yX _).2 k |>.1 hk,rfl⟩,rfl⟩
   ·cases h
 ·rintro ⟨q,⟨d,i,k,hb,hd,hi,hk,rfl⟩,rfl⟩;rw[if_neg (by omega),hd,hi];exact mem_map.2 ⟨k,(yX _).2 k |>.2 hk,rfl⟩
section
variable {o:List Dim} (ok:CubeOk o)
include ok
theorem zfw:(o.length<=4∧0 < o.length)∧∀ d∈o,0 < d.members.length∧d.members.length<=12:=⟨⟨ok.out.len.2,ok.out.len.1⟩,fun d hd=>(ok.out.dims d hd).len⟩
end
end
section
section
variable {o:List Dim} {l:List Entry} (ok:RightC o l) {cs:List Cell} (hcs:cs.length=sizeN o) (hin:∀ c∈cs,within c.n=true)
include hcs
include ok hin
end
end
section
section
variable {o:List Dim} {l:List Entry} (ok:RightC o l)
structure InvD (o:List Dim) (l:List Entry) (c:List Cell) (d:List Bool):Prop where
 lc:c.length=sizeN o
 ld:d.length=sizeN o
 ins:∀ x∈c,within x.n=true
 told:∀ i,i < sizeN o->d.getD i false=true->c.getD i ⟨0,0⟩=sol o l (qn o i).1
include ok
end
end
section
def allN0 (d:Dim):List (List Int):=if (qZ d).2=0 then yt d else []
theorem zeE (o:List Dim):P342 o=some (if (zcU o).2.2=0 then (o.map yt,.nil) else ([],zp (zcU o).2.2)):=by
 simp only[P342,S342,P51_eq,zB,qa];by_cases h0:(yK o).2.2=0
 ·obtain ok:=zg3.1 h0;have hl:=ok.len;rw[decide_eq_true h0,Bool.not_true,zj];generalize hL:o.map allN0=L;have hLl:L.length=o.length:=by rw[← hL];simp
  have S:=qX (B:=zet P340 o) (fun i=>(L.take i,(i:Int))) o.length (fun i=>(zcJ o i).map fun r=>(([]:List (List (List Int))),zp r.2.2)) (d:=(L.take o.length,(o.length:Int))) (fun i hi _=>by
   have hx:=List.getElem?_eq_getElem hi;have e4:wi ((i:Int)+1)=((i+1:Nat):Int):=by rw[j9 (by omega) (by omega)];omega
   have hlj:L[i]? = some (allN0 o[i]):=by rw[← hL,getElem?_map,hx];rfl
   simp only[zet];rw[zA,if_pos (by omega)];simp only[zi,hx,zB,P340_eq,qa];unfold zcJ;rw[hx];simp only;by_cases c:(qZ o[i]).2=0
   ·have hck:(L.take i).length+[yt o[i]].length<=zZ:=by simp only[length_take,List.length_singleton];unfold zZ;omega
    simp only[c,decide_true,Bool.not_true,zj,if_true,not_true,if_false,map_none,zP hck,zaq,e4];rw[← zdy hlj];unfold allN0;rw[if_pos c]
   ·simp only[c,decide_false,Bool.not_false,zt,not_false_eq_true,if_true,if_false,map_some]
    rfl) (fun _=>by simp only[zet];rw[zA,if_neg (by omega)];rfl)
  rw[yF,show (([]:List (List (List Int))),(0:Int))=(L.take 0,((0:Nat):Int)) from rfl,S,qd];have hall:zcU o=match (List.range o.length).findSome? (zcJ o) with | some r=>r | none=>(-1, -1,0):=by unfold zcU;rw[if_neg (fun h=>h h0)];rfl
  rw[hall];cases hs:(List.range o.length).findSome? (zcJ o) with
  | some r =>obtain ⟨i,hi,hr⟩:=List.exists_of_findSome?_eq_some hs;have hne:=zgW hr;simp only[map_some,jn_r];rw[if_neg hne]
  | none =>simp only[map_none,yO];rw[← hLl,take_length,← hL];have ck:CubeOk o:=yr.1 (by rw[hall,hs]);rw[show o.map allN0=o.map yt from List.map_congr_left fun d hd=>by unfold allN0;rw[if_pos (ck.rules d hd)]];rfl
 ·rw[decide_eq_false h0];unfold zcU;rw[if_pos h0,if_neg h0];rfl
section
variable {o:List Dim} (ok:CubeOk o)
include ok
theorem P343_eq {p:List Int} (hf:Fit o p):P343 o (o.map yt) p=some (zfG o p):=by
 obtain ⟨⟨h4,h0⟩,hm⟩:=zfw ok;have hlen:=hf.len;simp only[P343,S343,P353_eq hf (by omega) (fun d hd=>by have:=(hm d hd).2;omega),zB,zA];unfold zfG;by_cases hb:byL o p < 0
 ·rw[if_pos hb,if_pos hb]
 rw[if_neg hb,if_neg hb];obtain ⟨d,i,hd,hi,_⟩:=byL_is (show 0<=byL o p by omega);obtain ⟨b,hbn⟩:∃ b:Nat,byL o p=b:=⟨(byL o p).toNat,by omega⟩;rw[hbn] at hd hi ⊢;simp only[Int.toNat_natCast] at hd hi ⊢;have hr:=hf.mem _ _ _ hi hd;obtain ⟨j,rfl⟩:∃ j:Nat,i=j:=⟨i.toNat,by omega⟩;have hj:j < d.members.length:=by omega
 have hdm:=List.mem_of_getElem? hd;have hru:=ok.rules d hdm;have h12:=(hm d hdm).2;have hal:(o.map yt)[b]? = some (yt d):=by rw[getElem?_map,hd];rfl
 have hbp:b < p.length:=(List.getElem?_eq_some_iff.1 hi).1;simp only[zi,hal,hi,hd,zB,zep hj,Int.toNat_natCast];have hnl:=zas h12 j;generalize hL:(jz d j).map (fun k=>((jG o (p.set b k):Nat):Int))=L;have hLl:L.length=(jz d j).length:=by rw[← hL];simp
 have hs:=qu (B:=zes P49 P70 o p (b:Int) (jz d j)) (fun i=>(L.take i,(i:Int))) (jz d j).length (fun i hi'=>by
  have hx:=List.getElem?_eq_getElem hi';have e4:wi ((i:Int)+1)=((i+1:Nat):Int):=by rw[j9 (by omega) (by omega)];omega
  obtain ⟨k,hk1,hk2,hk3⟩:=drk_lt hru hj ((yX _).2 _ |>.1 (List.getElem_mem hi'));have hlj:L[i]? = some ((jG o (p.set b (jz d j)[i]):Nat):Int):=by rw[← hL,getElem?_map,hx];rfl
  have hfk:=fit_set hf hd hk2;simp only[zes];rw[zA,if_pos (by omega)];simp only[zi,hx,zB];rw[hk1] at hlj ⊢;have hck:(L.take i).length+[((jG o (p.set b (k:Int)):Nat):Int)].length<=zZ:=by simp only[length_take,List.length_singleton];unfold zZ;omega
  rw[P70_eq p b k hbp (by omega)];simp only[zB,P49_eq hfk.len (by rw[hfk.len];omega),zgd ok.out hfk,zP hck,zaq,e4,zdy hlj])
 rw[yF,show (([]:List Int),(0:Int))=(L.take 0,((0:Nat):Int)) from rfl,hs,q8 (y:=(L.take (jz d j).length,((jz d j).length:Int))) (by simp only[zes];rw[zA,if_neg (by omega)];rfl)];simp only[yO];rw[← hLl,take_length]
end
def qQ (o:List Dim):List (List Int):=(List.range (sizeN o)).map fun n=>zfG o (qn o n).1
theorem P344_eq (o:List Dim):P344 o=some (if (zcU o).2.2=0 then (qQ o,.nil) else ([],zp (zcU o).2.2)):=by
 simp only[P344,S344,zeE,zB];by_cases h:(zcU o).2.2=0
 ·have ok:=yr.1 h;obtain ⟨⟨h4,h0⟩,hm⟩:=zfw ok;obtain ⟨h1,h2⟩:=ok.out.sizeN;rw[if_pos h,if_pos h];simp only[yl,Bool.not_true,zj,P40_eq o (by omega),h1,zB];generalize hL:qQ o=L;have hLl:L.length=sizeN o:=by rw[← hL];simp[qQ]
  have hs:=qu (B:=zer P343s P69 o (o.map yt,.nil) ((sizeN o:Nat):Int)) (fun i=>(L.take i,(i:Int))) (sizeN o) (fun i hi=>by
   have e4:wi ((i:Int)+1)=((i+1:Nat):Int):=by rw[j9 (by omega) (by omega)];omega
   have hlj:L[i]? = some (zfG o (qn o i).1):=by rw[← hL];unfold qQ;rw[getElem?_map,List.getElem?_range hi];rfl
   have hp:P343s o (o.map yt) (qn o i).1=some (zfG o (qn o i).1):=P343_eq ok (wC ok.out i);simp only[zer];rw[zA,if_pos (by omega)];have hck:(L.take i).length+[zfG o (qn o i).1].length<=zZ:=by simp only[length_take,List.length_singleton];unfold zZ;omega
   simp only[P69_eq o i (by omega) (by omega) (fun d hd=>⟨(hm d hd).1,by have:=(hm d hd).2;omega⟩),zB,hp,zP hck,zaq,e4,zdy hlj])
  rw[yF,show (([]:List (List Int)),(0:Int))=(L.take 0,((0:Nat):Int)) from rfl,hs,q8 (y:=(L.take (sizeN o),((sizeN o:Nat):Int))) (by simp only[zer];rw[zA,if_neg (by omega)];rfl)];simp only[yO];rw[← hLl,take_length]
 ·rw[if_neg h,if_neg h];simp only[qa,decide_eq_false h,Bool.not_false,zt]
end
section
section
variable {o:List Dim} (ok:CubeOk o) {n:List (List Int)} (hn:n.length=sizeN o) (hm:∀ i x,x∈n.getD i []->i < sizeN o∧∃ q,Asks o (qn o i).1 q∧x=((jG o q:Nat):Int))
include ok hn hm
theorem zhA:Rng n:=fun i k hk=>by
 obtain ⟨_,q,hq,rfl⟩:=hm i k hk;have hf:=(asks_lt ok (wC ok.out i) hq).1;have:=zbW hf;rw[hn];omega
end
section
variable {o:List Dim}
theorem zhC (i:Nat) (x:Int) (h:x∈(qQ o).getD i []):i < sizeN o∧∃ q,Asks o (qn o i).1 q∧x=((jG o q:Nat):Int):=by
 unfold qQ at h;rw[List.getD_eq_getElem?_getD,getElem?_map] at h;by_cases hi:i < sizeN o
 ·rw[List.getElem?_range hi] at h;exact ⟨hi,askN_mem.1 h⟩
 ·rw[List.getElem?_eq_none (by rw[List.length_range];omega)] at h;cases h
end
theorem zhB {o:List Dim} (ok:CubeOk o) (p:List Int):(zfG o p).length<=30:=by
 unfold zfG;split
 ·simp
 ·split
  ·rename_i d i hd hi;rw[List.length_map];exact zas ((ok.out.dims d (List.mem_of_getElem? hd)).len).2 _
  ·simp
theorem allA_w {o:List Dim} (ok:CubeOk o) (i:Nat):((qQ o).getD i []).length<=100000:=by
 unfold qQ;rw[List.getD_eq_getElem?_getD,getElem?_map];cases (List.range (sizeN o))[i]? with
 | none=>simp
 | some j=>have:=zhB ok (qn o j).1;simp only[map_some,Option.getD_some];omega
theorem sortI_mem {l:List Int} {x:Int}:x∈ye l↔x∈l:=List.mem_mergeSort
end
end Ab
