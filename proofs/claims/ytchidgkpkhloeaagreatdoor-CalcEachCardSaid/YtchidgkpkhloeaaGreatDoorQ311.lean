/-
  Plain law: each cell is what is told at its place; what is written stands; in the order of places each stands once, behind those that it needs.
-/
import Derived.Test.YtchidgkpkhloeaaGreatDoorW311
import Derived.Test.YtchidgkpkhloeaaGreatDoorHH
open List (getElem?_map)
open Int (toNat_natCast)
set_option linter.unusedVariables false
set_option linter.unusedSimpArgs false
namespace Ab
open Go
def zcx:List Dim:=[⟨⟨#[97]⟩,0,[⟨⟨#[98]⟩, -1,0,⟨#[]⟩⟩,⟨⟨#[99]⟩,0,1,⟨#[]⟩⟩]⟩]
def zj3:List Entry:=[⟨[1],7⟩]
theorem one_out:(qj zcx).2.2=0:=by decide+kernel
theorem one_plain:noForm zcx:=by simp[noForm,zcx]
theorem zb3:CubeOk zcx:=zjS (yd.1 one_out) one_plain
theorem zhq:∀ i:Nat,i < 2->jq zcx [(i:Int)]=0:=by decide+kernel
theorem one_leaf:zcG zcx [1]=true:=by decide+kernel
theorem one_by:byL zcx [0]=0∧byL zcx [1] = -1:=by decide+kernel
theorem zcw:RightC zcx zj3:=by
 have hm:∀ e∈zj3,e=⟨[1],7⟩:=by simp[zj3]
 refine ⟨zb3,⟨zb3.out,fun e he => ?_,fun e he => ?_,fun e he => ?_,fun i x y h1 h2 => ?_⟩, ?_,fun e he => ?_⟩
 ·rw[hm e he];exact jS.1 (zhq 1 (by omega))
 ·rw[hm e he];exact one_leaf
 ·rw[hm e he];decide
 ·match i with
  | 0=>cases h2
  | i+1=>cases h1
 ·show (1:Nat)<=_;omega
 ·rw[hm e he];refine ⟨⟨by show (1:Nat)<=_;omega,fun x hx => ?_⟩,by show I64 7;unfold I64;omega⟩;rw[List.mem_singleton.1 hx];unfold I64;omega
theorem one_sol:sol zcx zj3 [0]=⟨1,7⟩:=by
 have h1:sol zcx zj3 [1]=⟨1,7⟩:=(by have hf:Fit zcx [1]:=jS.1 (zhq 1 (by omega));rw[zij zb3 hf];unfold zae;rw[one_by.2,if_pos (by omega)];rfl);have hf:Fit zcx [0]:=jS.1 (zhq 0 (by omega));rw[zij zb3 hf];unfold zae;rw[one_by.1,if_neg (by omega)];show wG ⟨0,0⟩ (sol zcx zj3 [1]) 1=_;rw[h1]
 decide+kernel
theorem one_all:∃ c,zh2 zcx zj3=[⟨1,7⟩,c]:=by refine ⟨sol zcx zj3 (qw zcx 1).1, ?_⟩;rw[show zh2 zcx zj3=[sol zcx zj3 [0],sol zcx zj3 (qw zcx 1).1] from rfl,one_sol]
theorem P132_eqE (o:List Dim) (p:List Int) (h:p.length<=9223372036854775807):P132 o p=some (if zbH o p=0 then (((we o p:Nat):Int),.nil) else (0,zn (zbH o p))):=by
 simp only[P132,S132,P114_eq o p h,zi,zG];by_cases h0:zbH o p=0
 ·obtain ⟨ok,hf⟩:=zit.1 h0;simp[h0,zjd hf.len h,zeJ ok hf]
 ·simp[h0]
noncomputable def zbY (o:List Dim) (i:Nat):List Bool:=(List.range (sizeN o)).map fun k=>decide (k∈(qm (zbR o)).take i)
theorem zaZ {o:List Dim} {i k:Nat} (h:k < sizeN o):(zbY o i)[k]? = some (decide (k∈(qm (zbR o)).take i)):=by unfold zbY;rw[getElem?_map,List.getElem?_range h];rfl
theorem wE (o:List Dim) (i:Nat):(zbY o i).length=sizeN o:=by simp[zbY]
theorem zjQ {o:List Dim} {i x:Nat} (h:(qm (zbR o))[i]? = some x):(zbY o i).set x true=zbY o (i+1):=by
 refine List.ext_getElem? fun k => ?_;by_cases hk:k < sizeN o
 ·rw[zaZ hk,List.getElem?_set,wE,List.take_add_one,h];by_cases e:x=k
  ·subst e;rw[if_pos rfl,if_pos hk];simp
  ·rw[if_neg e,zaZ hk];have:¬ k=x:=fun c=>e c.symm;simp[this]
 ·rw[List.getElem?_eq_none (by rw[List.length_set,wE];omega),List.getElem?_eq_none (by rw[wE];omega)]
theorem zjD {l:List Nat} (h:l.Nodup) {i x:Nat} (hx:l[i]? = some x):x ∉ l.take i:=by intro c;obtain ⟨j,hj⟩:=List.mem_iff_getElem?.1 c;have hj2:j < i:=(by have:=(List.getElem?_eq_some_iff.1 hj).1;rw[List.length_take] at this;omega);rw[List.getElem?_take_of_lt hj2] at hj;obtain ⟨h1,h1e⟩:=List.getElem?_eq_some_iff.1 hx;obtain ⟨h2,h2e⟩:=List.getElem?_eq_some_iff.1 hj;have hp:=List.pairwise_iff_getElem.1 h j i h2 h1 hj2;exact hp (h2e.trans h1e.symm)
section
variable {o:List Dim} {l:List Entry} (ok:RightC o l) (at_:List Int)
include ok
omit ok in
theorem zi2 {k:Nat} (hk:k < sizeN o):(zh2 o l)[k]? = some (sol o l (qw o k).1):=by unfold zh2;rw[getElem?_map,List.getElem?_range hk];rfl
theorem loopA (hl:Lst Entry.gd l) (ha:at_.length<=9223372036854775807):∃ n,lpO (zdu P330 P98 o l at_ (zh2 o l,.nil)) (0:Int)=some (.inl n):=by
 have hlen:=ok.cube.out.len;obtain ⟨hz,h2⟩:=ok.cube.out.sizeN;have hout:(qj o).2.2=0:=yd.2 ok.cube.out;have hc:=(zcY hl).2 ok;refine ⟨((min at_.length 20:Nat):Int), ?_⟩;have hs:=zJ (B:=zdu P330 P98 o l at_ (zh2 o l,.nil)) (fun i=>(i:Int)) (min at_.length 20) (fun i hi=>by
  have e4:wi ((i:Int)+1)=((i+1:Nat):Int):=by rw[qL (by omega) (by omega)];omega
  have hx:=List.getElem?_eq_getElem (show i < at_.length by omega);generalize at_[i]=x at hx;simp only[zdu];rw[decide_eq_true (show (i:Int) < (at_.length:Int) by omega),zm,decide_eq_true (show (i:Int) < 20 by omega)];simp only[zx,qp,zm,zb,hx,zi,P98_eq,if_pos hout,hz];by_cases c:x < 0∨((sizeN o:Nat):Int)<=x
  ·rw[if_pos c];simp only[show (Err.isNil (.no 1))=false from rfl,Bool.not_false,zm,zx,qp,yH,e4]
  ·rw[if_neg c];obtain ⟨k,rfl⟩:∃ k:Nat,x=k:=⟨x.toNat,by omega⟩;have hk:k < sizeN o:=by omega
   have hf:Fit o (qw o k).1:=wb ok.cube.out k;simp only[qr,Bool.not_true,zd,toNat_natCast];rw[P330_eq hl (by rw[hf.len];omega),if_pos hc,if_pos (jS.2 hf)];simp only[zi,qr,Bool.not_true,zd,decide_eq_false (show ¬ (k:Int) < 0 by omega),za1,decide_eq_false (show ¬ ((sizeN o:Nat):Int)<=(k:Int) by omega),zb,zi2 hk,decide_true,Bool.and_true,zx,qp,yH,e4])
 rw[show (0:Int)=((0:Nat):Int) from rfl,hs];refine zP ?_;simp only[zdu];by_cases h:at_.length < 20
 ·rw[decide_eq_false (show ¬ ((min at_.length 20:Nat):Int) < (at_.length:Int) by omega),zd];simp only[zx,qp,zd,dnO_s]
 ·rw[zl];split
  ·rw[decide_eq_false (show ¬ ((min at_.length 20:Nat):Int) < 20 by omega)];simp only[zx,qp,zd,dnO_s]
  ·simp only[zx,qp,zd,dnO_s]
theorem loopB:lpO (zdt P132 P8 o l (zh2 o l,.nil)) (0:Int)=some (.inl ((l.length:Nat):Int)):=by
 have hlen:=ok.cube.out.len;have hll:=ok.len.1;have hout:(qj o).2.2=0:=yd.2 ok.cube.out;obtain ⟨hz,h2⟩:=ok.cube.out.sizeN;have hs:=zJ (B:=zdt P132 P8 o l (zh2 o l,.nil)) (fun i=>(i:Int)) l.length (fun i hi=>by
  have e4:wi ((i:Int)+1)=((i+1:Nat):Int):=by rw[qL (by omega) (by omega)];omega
  have hx:=List.getElem?_eq_getElem hi;have hmem:=List.getElem_mem hi;generalize l[i]=e at hx hmem;have hf:=ok.ents.fit e hmem;have hp:zbH o e.at_=0:=zit.2 ⟨ok.cube.out,hf⟩;have hn:=zaG hf;have hd:(qw o (we o e.at_)).1=e.at_:=by rw[wV ok.pos hf]
  simp only[zdt];rw[zl,if_pos (by omega)];simp only[zb,hx,zi];rw[P132_eqE o e.at_ (by rw[hf.len];omega),if_pos hp];simp only[zi,qr,Bool.not_true,zd,decide_eq_false (show ¬ ((we o e.at_:Nat):Int) < 0 by omega),za1,decide_eq_false (show ¬ ((sizeN o:Nat):Int)<=((we o e.at_:Nat):Int) by omega),zb,zi2 hn,hd,sol_ent ok hx,P8_eq,decide_true,Bool.and_true,zx,qp,yH,e4])
 rw[show (0:Int)=((0:Nat):Int) from rfl,hs];refine zP ?_;simp only[zdt];rw[zl,if_neg (by omega)];rfl
theorem loopC (i:Nat) (hi:i < sizeN o) (x:Nat) (hx:(qm (zbR o))[i]? = some x) (hxs:x < sizeN o) (hm:∀ y∈yB (zdB o (qw o x).1),∃ k:Nat,y=k∧k < sizeN o∧k∈(qm (zbR o)).take i) :
  lpO (zds (zh2 o l,.nil) ((i:Int),zbY o i) (yB (zdB o (qw o x).1),.nil)) (0:Int)=some (.inl (((yB (zdB o (qw o x).1)).length:Nat):Int)):=by
 obtain ⟨hz,h2⟩:=ok.cube.out.sizeN;have hal:(yB (zdB o (qw o x).1)).length<=30:=by rw[qS];exact zfi ok.cube _
 generalize yB (zdB o (qw o x).1)=L at hm hal;have hs:=zJ (B:=zds (zh2 o l,.nil) ((i:Int),zbY o i) (L,.nil)) (fun i=>(i:Int)) L.length (fun j hj=>by
  have e4:wi ((j:Int)+1)=((j+1:Nat):Int):=by rw[qL (by omega) (by omega)];omega
  have hy:=List.getElem?_eq_getElem hj;obtain ⟨k,hk1,hk2,hk3⟩:=hm _ (List.getElem_mem hj);rw[hk1] at hy;simp only[zds];rw[zl,if_pos (by omega)];simp only[zb,hy,zi,decide_eq_false (show ¬ (k:Int) < 0 by omega),zd,za1,decide_eq_false (show ¬ ((sizeN o:Nat):Int)<=(k:Int) by omega),wE,zp (show 0<=(k:Int)∧(k:Int) < ((sizeN o:Nat):Int) by omega),toNat_natCast,zaZ hk2,hk3,decide_true,Bool.not_true,zx,qp,yH,e4])
 rw[show (0:Int)=((0:Nat):Int) from rfl,hs];refine zP ?_;simp only[zds];rw[zl,if_neg (by omega)];rfl
theorem loopD:∃ s,lpO (zdr P328 P98 o (zh2 o l,.nil) (jE (qm (zbR o)),.nil)) ((0:Int),List.replicate (sizeN o) false)=some (.inl s):=by
 have hlen:=ok.cube.out.len;have hout:(qj o).2.2=0:=yd.2 ok.cube.out;have hA:(zbv o).2.2=0:=ji.2 ok.cube;obtain ⟨hz,h2⟩:=ok.cube.out.sizeN;have hT:(zbR o).length=sizeN o:=by simp[zbR]
 obtain ⟨⟨hnd,hlt,hord⟩,hbl⟩:=zbs (zfh ok.cube hT zcb) (zdg ok.cube zcb);rw[hT] at hbl hlt;have hcl:(jE (qm (zbR o))).length=sizeN o:=zek ok.cube;refine ⟨(((sizeN o:Nat):Int),zbY o (sizeN o)), ?_⟩;have hs:=zJ (B:=zdr P328 P98 o (zh2 o l,.nil) (jE (qm (zbR o)),.nil)) (fun i=>((i:Int),zbY o i)) (sizeN o) (fun i hi=>by
  have e4:wi ((i:Int)+1)=((i+1:Nat):Int):=by rw[qL (by omega) (by omega)];omega
  obtain ⟨x,hx⟩:∃ x,(qm (zbR o))[i]? = some x:=⟨_,List.getElem?_eq_getElem (by omega)⟩;have hxs:=hlt x (List.mem_of_getElem? hx);have hc:(jE (qm (zbR o)))[i]? = some (x:Int):=by unfold jE;rw[getElem?_map,hx];rfl
  have hf:Fit o (qw o x).1:=wb ok.cube.out x;have hm:∀ y∈yB (zdB o (qw o x).1),∃ k:Nat,y=k∧k < sizeN o∧k∈(qm (zbR o)).take i:=(by intro y hy;obtain ⟨q,hq,rfl⟩:=zca.1 (sortI_mem.1 hy);have hfq:=(wN ok.cube hf hq).1;refine ⟨_,rfl,zaG hfq, ?_⟩;refine hord i x hx _ ?_;refine List.mem_map.2 ⟨((we o q:Nat):Int), ?_,by simp⟩;rw[List.getD_eq_getElem?_getD,allT_get hxs];exact zci.2 ⟨q,hq,rfl⟩);simp only[zdr];rw[zl,if_pos (by rw[hcl];omega)];simp only[zb,hc,zi,P98_eq,if_pos hout,hz,if_neg (show ¬ ((x:Int) < 0∨((sizeN o:Nat):Int)<=(x:Int)) by omega),toNat_natCast];rw[P328_eq o _ (by rw[hf.len];omega),if_pos hA,if_pos (jS.2 hf)];simp only[zi,qr,Bool.not_true,zd,decide_eq_false (show ¬ (x:Int) < 0 by omega),za1,decide_eq_false (show ¬ ((sizeN o:Nat):Int)<=(x:Int) by omega),wE,zp (show 0<=(x:Int)∧(x:Int) < ((sizeN o:Nat):Int) by omega),toNat_natCast,zaZ hxs,decide_eq_false (zjD hnd hx),zx,qp,qy,loopC ok i hi x hx hxs hm,zjQ hx,yH,e4])
 rw[show ((0:Int),List.replicate (sizeN o) false)=(((0:Nat):Int),zbY o 0) from by
  congr 1;unfold zbY;simp[List.map_const'],hs]
 refine zP ?_;simp only[zdr];rw[zl,if_neg (by rw[hcl];omega)];rfl
end
theorem p311 (o:List Dim) (l:List Entry) (a:List Int) (hl:Lst Entry.gd l) (ha:a.length<=9223372036854775807):P311 o l a=some true:=by
 obtain ⟨c,hone⟩:=one_all;have h1:=P332_eq (o:=zcx) zcw.len;rw[if_pos ((zcY zcw.len).2 zcw),hone] at h1;simp only[P311,S311];simp only[zcx,zj3] at h1;rw[h1];have hck:yM 7=⟨1,7⟩:=by decide
 simp only[zi,qr,Bool.not_true,zd,List.length_cons,List.length_nil,P8_eq,hck,zl,zj];simp only[P332_eq hl,zi];by_cases hc:jV o l=0
 ·have ok:=(zcY hl).1 hc;have hA:(zbv o).2.2=0:=ji.2 ok.cube;obtain ⟨hz,h2⟩:=ok.cube.out.sizeN;obtain ⟨n,hA1⟩:=loopA ok a hl ha;obtain ⟨s,hD⟩:=loopD ok;have hr2:sizeN o<=zu:=by unfold zu;omega
  have hr1:((sizeN o:Nat):Int)<=((zu:Nat):Int):=by omega
  simp[hc,qy,hA1,loopB ok,P334_eq,hA,zek ok.cube,za1,hr1,hr2,hD]
 ·simp[hc,zG]
end Ab
