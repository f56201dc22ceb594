import Derived.Test.YtchidgkpkhloeaaGreatDoorHO
import Derived.Test.YtchidgkpkhloeaaGreatDoorH8
import Derived.Test.YtchidgkpkhloeaaGreatDoorHK
open List (getElem?_map length_take mem_map take_length)
open Option (map_none map_some)
set_option linter.unusedVariables false
set_option linter.unusedSimpArgs false
set_option linter.unnecessarySimpa false
noncomputable section
namespace Ab
open Go
section
def zho (o:List Dim) (p:List Int):List Int :=
 if byL o p < 0 then [] else
 match o[(byL o p).toNat]?,p[(byL o p).toNat]? with
 | some d,some i=>(yi d i.toNat).map fun k=>((qA o (p.set (byL o p).toNat k):Nat):Int)
 | _,_=>[]
def toldL (o:List Dim) (p:List Int):List Int:=(zho o p).foldl insI []
theorem zjl {o:List Dim} {p:List Int} {x:Int}:x∈zho o p↔∃ q,Asks o p q∧x=((qA o q:Nat):Int):=by
 unfold zho;constructor
 ·intro h;split at h
  ·cases h
  ·rename_i hb;split at h
   ·rename_i d i hd hi;obtain ⟨k,hk,rfl⟩:=mem_map.1 h;exact ⟨_,⟨d,i,k,by omega,hd,hi,(zaJ _).2 k |>.1 hk,rfl⟩,rfl⟩
   ·cases h
 ·rintro ⟨q,⟨d,i,k,hb,hd,hi,hk,rfl⟩,rfl⟩;rw[if_neg (by omega),hd,hi];exact mem_map.2 ⟨k,(zaJ _).2 k |>.2 hk,rfl⟩
section
variable {o:List Dim} (ok:CubeOk o)
include ok
theorem zg2:(o.length<=4∧0 < o.length)∧∀ d∈o,0 < d.members.length∧d.members.length<=12:=⟨⟨ok.out.len.2,ok.out.len.1⟩,fun d hd=>(ok.out.dims d hd).len⟩
end
end
section
section
variable {o:List Dim} {l:List Entry} (ok:RightC o l) {cs:List Cell} (hcs:cs.length=sizeN o) (hin:∀ c∈cs,within c.n=true)
include hcs
include ok hin
end
end
section
section
variable {o:List Dim} {l:List Entry} (ok:RightC o l)
structure InvD (o:List Dim) (l:List Entry) (c:List Cell) (d:List Bool):Prop where
 lc:c.length=sizeN o
 ld:d.length=sizeN o
 ins:∀ x∈c,within x.n=true
 told:∀ i,i < sizeN o->d.getD i false=true->c.getD i ⟨0,0⟩=sol o l (qq o i).1
include ok
end
end
section
def allN0 (d:Dim):List (List Int):=if (qz d).2=0 then yY d else []
theorem zf4 (o:List Dim):P342 o=some (if (zaD o).2.2=0 then (o.map yY,.nil) else ([],zm (zaD o).2.2)):=by
 simp only[P342,S342,P51_eq,zj,zB];by_cases h0:(qP o).2.2=0
 ·obtain ok:=zay.1 h0;have hl:=ok.len;rw[decide_eq_true h0,Bool.not_true,zg];generalize hL:o.map allN0=L;have hLl:L.length=o.length:=by rw[← hL];simp
  have S:=jx (B:=zfQ P340 o) (fun i=>(L.take i,(i:Int))) o.length (fun i=>(zbD o i).map fun r=>(([]:List (List (List Int))),zm r.2.2)) (d:=(L.take o.length,(o.length:Int))) (fun i hi _=>by
   have hx:=List.getElem?_eq_getElem hi;have e4:wi ((i:Int)+1)=((i+1:Nat):Int):=by rw[jv (by omega) (by omega)];omega
   have hlj:L[i]? = some (allN0 o[i]):=by rw[← hL,getElem?_map,hx];rfl
   simp only[zfQ];rw[zt,if_pos (by omega)];simp only[zh,hx,zj,P340_eq,zB];unfold zbD;rw[hx];simp only;by_cases c:(qz o[i]).2=0
   ·have hck:(L.take i).length+[yY o[i]].length<=zH:=by simp only[length_take,List.length_singleton];unfold zH;omega
    simp only[c,decide_true,Bool.not_true,zg,if_true,not_true,if_false,map_none,zw hck,yG,e4];rw[← wX hlj];unfold allN0;rw[if_pos c]
   ·simp only[c,decide_false,Bool.not_false,zl,not_false_eq_true,if_true,if_false,map_some]
    rfl) (fun _=>by simp only[zfQ];rw[zt,if_neg (by omega)];rfl)
  rw[jh,show (([]:List (List (List Int))),(0:Int))=(L.take 0,((0:Nat):Int)) from rfl,S,z6];have hall:zaD o=match (List.range o.length).findSome? (zbD o) with | some r=>r | none=>(-1, -1,0):=by unfold zaD;rw[if_neg (fun h=>h h0)];rfl
  rw[hall];cases hs:(List.range o.length).findSome? (zbD o) with
  | some r =>obtain ⟨i,hi,hr⟩:=List.exists_of_findSome?_eq_some hs;have hne:=ziA hr;simp only[map_some,jn_r];rw[if_neg hne]
  | none =>simp only[map_none,q8];rw[← hLl,take_length,← hL];have ck:CubeOk o:=je.1 (by rw[hall,hs]);rw[show o.map allN0=o.map yY from List.map_congr_left fun d hd=>by unfold allN0;rw[if_pos (ck.rules d hd)]];rfl
 ·rw[decide_eq_false h0];unfold zaD;rw[if_pos h0,if_neg h0];rfl
section
variable {o:List Dim} (ok:CubeOk o)
include ok
theorem P343_eq {p:List Int} (hf:Fit o p):P343 o (o.map yY) p=some (zho o p):=by
 obtain ⟨⟨h4,h0⟩,hm⟩:=zg2 ok;have hlen:=hf.len;simp only[P343,S343,P353_eq hf (by omega) (fun d hd=>by have:=(hm d hd).2;omega),zj,zt];unfold zho;by_cases hb:byL o p < 0
 ·rw[if_pos hb,if_pos hb]
 rw[if_neg hb,if_neg hb];obtain ⟨d,i,hd,hi,_⟩:=byL_is (show 0<=byL o p by omega);obtain ⟨b,hbn⟩:∃ b:Nat,byL o p=b:=⟨(byL o p).toNat,by omega⟩;rw[hbn] at hd hi ⊢;simp only[Int.toNat_natCast] at hd hi ⊢;have hr:=hf.mem _ _ _ hi hd;obtain ⟨j,rfl⟩:∃ j:Nat,i=j:=⟨i.toNat,by omega⟩;have hj:j < d.members.length:=by omega
 have hdm:=List.mem_of_getElem? hd;have hru:=ok.rules d hdm;have h12:=(hm d hdm).2;have hal:(o.map yY)[b]? = some (yY d):=by rw[getElem?_map,hd];rfl
 have hbp:b < p.length:=(List.getElem?_eq_some_iff.1 hi).1;simp only[zh,hal,hi,hd,zj,zfK hj,Int.toNat_natCast];have hnl:=zbb h12 j;generalize hL:(yi d j).map (fun k=>((qA o (p.set b k):Nat):Int))=L;have hLl:L.length=(yi d j).length:=by rw[← hL];simp
 have hs:=zU (B:=zfP P49 P70 o p (b:Int) (yi d j)) (fun i=>(L.take i,(i:Int))) (yi d j).length (fun i hi'=>by
  have hx:=List.getElem?_eq_getElem hi';have e4:wi ((i:Int)+1)=((i+1:Nat):Int):=by rw[jv (by omega) (by omega)];omega
  obtain ⟨k,hk1,hk2,hk3⟩:=drk_lt hru hj ((zaJ _).2 _ |>.1 (List.getElem_mem hi'));have hlj:L[i]? = some ((qA o (p.set b (yi d j)[i]):Nat):Int):=by rw[← hL,getElem?_map,hx];rfl
  have hfk:=zhV hf hd hk2;simp only[zfP];rw[zt,if_pos (by omega)];simp only[zh,hx,zj];rw[hk1] at hlj ⊢;have hck:(L.take i).length+[((qA o (p.set b (k:Int)):Nat):Int)].length<=zH:=by simp only[length_take,List.length_singleton];unfold zH;omega
  rw[P70_eq p b k hbp (by omega)];simp only[zj,zhh hfk.len (by rw[hfk.len];omega),zc5 ok.out hfk,zw hck,yG,e4,wX hlj])
 rw[jh,show (([]:List Int),(0:Int))=(L.take 0,((0:Nat):Int)) from rfl,hs,qw (y:=(L.take (yi d j).length,((yi d j).length:Int))) (by simp only[zfP];rw[zt,if_neg (by omega)];rfl)];simp only[q8];rw[← hLl,take_length]
end
def ju (o:List Dim):List (List Int):=(List.range (sizeN o)).map fun n=>zho o (qq o n).1
theorem P344_eq (o:List Dim):P344 o=some (if (zaD o).2.2=0 then (ju o,.nil) else ([],zm (zaD o).2.2)):=by
 simp only[P344,S344,zf4,zj];by_cases h:(zaD o).2.2=0
 ·have ok:=je.1 h;obtain ⟨⟨h4,h0⟩,hm⟩:=zg2 ok;obtain ⟨h1,h2⟩:=ok.out.sizeN;rw[if_pos h,if_pos h];simp only[qZ,Bool.not_true,zg,zjw o (by omega),h1,zj];generalize hL:ju o=L;have hLl:L.length=sizeN o:=by rw[← hL];simp[ju]
  have hs:=zU (B:=zfO P343s P69 o (o.map yY,.nil) ((sizeN o:Nat):Int)) (fun i=>(L.take i,(i:Int))) (sizeN o) (fun i hi=>by
   have e4:wi ((i:Int)+1)=((i+1:Nat):Int):=by rw[jv (by omega) (by omega)];omega
   have hlj:L[i]? = some (zho o (qq o i).1):=by rw[← hL];unfold ju;rw[getElem?_map,List.getElem?_range hi];rfl
   have hp:P343s o (o.map yY) (qq o i).1=some (zho o (qq o i).1):=P343_eq ok (wt ok.out i);simp only[zfO];rw[zt,if_pos (by omega)];have hck:(L.take i).length+[zho o (qq o i).1].length<=zH:=by simp only[length_take,List.length_singleton];unfold zH;omega
   simp only[P69_eq o i (by omega) (by omega) (fun d hd=>⟨(hm d hd).1,by have:=(hm d hd).2;omega⟩),zj,hp,zw hck,yG,e4,wX hlj])
  rw[jh,show (([]:List (List Int)),(0:Int))=(L.take 0,((0:Nat):Int)) from rfl,hs,qw (y:=(L.take (sizeN o),((sizeN o:Nat):Int))) (by simp only[zfO];rw[zt,if_neg (by omega)];rfl)];simp only[q8];rw[← hLl,take_length]
 ·rw[if_neg h,if_neg h];simp only[zB,decide_eq_false h,Bool.not_false,zl]
end
section
section
variable {o:List Dim} (ok:CubeOk o) {n:List (List Int)} (hn:n.length=sizeN o) (hm:∀ i x,x∈n.getD i []->i < sizeN o∧∃ q,Asks o (qq o i).1 q∧x=((qA o q:Nat):Int))
include ok hn hm
theorem zjk:Rng n:=fun i k hk=>by
 obtain ⟨_,q,hq,rfl⟩:=hm i k hk;have hf:=(zaW ok (wt ok.out i) hq).1;have:=yp hf;rw[hn];omega
end
section
variable {o:List Dim}
theorem zjn (i:Nat) (x:Int) (h:x∈(ju o).getD i []):i < sizeN o∧∃ q,Asks o (qq o i).1 q∧x=((qA o q:Nat):Int):=by
 unfold ju at h;rw[List.getD_eq_getElem?_getD,getElem?_map] at h;by_cases hi:i < sizeN o
 ·rw[List.getElem?_range hi] at h;exact ⟨hi,zjl.1 h⟩
 ·rw[List.getElem?_eq_none (by rw[List.length_range];omega)] at h;cases h
end
theorem zjm {o:List Dim} (ok:CubeOk o) (p:List Int):(zho o p).length<=30:=by
 unfold zho;split
 ·simp
 ·split
  ·rename_i d i hd hi;rw[List.length_map];exact zbb ((ok.out.dims d (List.mem_of_getElem? hd)).len).2 _
  ·simp
theorem allA_w {o:List Dim} (ok:CubeOk o) (i:Nat):((ju o).getD i []).length<=100000:=by
 unfold ju;rw[List.getD_eq_getElem?_getD,getElem?_map];cases (List.range (sizeN o))[i]? with
 | none=>simp
 | some j=>have:=zjm ok (qq o j).1;simp only[map_some,Option.getD_some];omega
theorem sortI_mem {l:List Int} {x:Int}:x∈yN l↔x∈l:=List.mem_mergeSort
end
end Ab
