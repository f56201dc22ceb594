/-
  Plain law: what is not dirty does not change; a place is dirty by a leaf just if it needs that.
-/
import Derived.Test.YtchidgkpkhloeaaGreatDoorW314
import Derived.Test.YtchidgkpkhloeaaGreatDoorHP
open List (getElem?_map mem_singleton)
open Option (map_some)
set_option linter.unusedVariables false
set_option linter.unusedSimpArgs false
namespace Ab
open Go
theorem zir (l:List Int) (n:Int) (h:l.length<=9223372036854775807):P339 l n=some (decide (n∈l)):=by
 simp only[P339,S339];rw[zcI (fun x=>decide (x=n)) l true false (fun i y hy => ?_) (by simp[zin])]
 ·by_cases hm:n∈l
  ·rw[if_pos (List.any_eq_true.2 ⟨n,hm,by simp⟩),decide_eq_true hm]
  ·rw[if_neg (fun h=>hm (by obtain ⟨x,h1,h2⟩:=List.any_eq_true.1 h;rw[← of_decide_eq_true h2];exact h1)),decide_eq_false hm]
 ·have hi:=(List.getElem?_eq_some_iff.1 hy).1;simp only[zin];rw[zt,if_pos (by omega)];simp only[zh,hy,zj];rw[jv (by omega) (by omega)];cases decide (y=n)<;>rfl
theorem zjx (o:List Dim) (p:List Int) (h:p.length<=9223372036854775807):P132 o p=some (if zax o p=0 then (((qA o p:Nat):Int),.nil) else (0,zm (zax o p))):=by
 simp only[P132,S132,P114_eq o p h,zj,zB];by_cases h0:zax o p=0
 ·obtain ⟨ok,hf⟩:=zcA.1 h0;simp[h0,zhh hf.len h,zc5 ok hf]
 ·simp[h0]
def facD:Dim:=⟨⟨#[97]⟩,0,[⟨⟨#[98]⟩, -1,0,⟨#[]⟩⟩,⟨⟨#[99]⟩,0,1,⟨#[]⟩⟩]⟩
def zf7:List Dim:=[facD]
theorem fac_out:(qP zf7).2.2=0:=by decide+kernel
theorem fac_plain:noForm zf7:=by simp[noForm,zf7,facD]
theorem fac_cube:CubeOk zf7:=zke (zay.1 fac_out) fac_plain
theorem zi2:byL zf7 [0]=0:=by decide+kernel
theorem fac_cnt:cntP2 facD (0:Nat)=[1]:=by decide+kernel
theorem fac_fit:ja zf7 [1]=0∧jE zf7 [1]=true∧qA zf7 [1]=1∧qA zf7 [0]=0∧ja zf7 [0]=0∧sizeN zf7=2:=by decide+kernel
theorem asks_nd {o:List Dim} (hpos:∀ d∈o,0 < d.members.length) {p q:List Int} (hf:Fit o p) (h:Asks o p q):qA o q∈nd (ju o) (qA o p):=by have hg:(ju o).getD (qA o p) []=zho o p:=(by unfold ju;rw[List.getD_eq_getElem?_getD,getElem?_map,List.getElem?_range (yp hf)];simp only[map_some,Option.getD_some,yq hpos hf]);unfold nd;rw[hg];exact List.mem_map.2 ⟨_,zjl.2 ⟨q,h,rfl⟩,by simp⟩
open Classical in
theorem fac_dirty:(yB zf7 [1]).length=2:=by
 obtain ⟨_,_,n1,n0,f0,hs⟩:=fac_fit;have hask:Asks zf7 [0] [1]:=⟨facD,0,1,by rw[zi2];exact Int.le_refl _,by rw[zi2];rfl,by rw[zi2];rfl,by
  show (1:Int)∈cntP2 facD (0:Nat);rw[fac_cnt]
  simp,by rw[zi2];rfl⟩
 have h1:=asks_nd (fun d hd=>by rw[mem_singleton.1 hd];decide) (q9.1 f0) hask;rw[n1,n0] at h1;have e0:(∃ a∈[1],RT (ju zf7) 0 a):=⟨1,by simp,.inr (.one h1)⟩;have e1:(∃ a∈[1],RT (ju zf7) 1 a):=⟨1,by simp,.inl rfl⟩;unfold yB;rw[hs,List.length_map,show List.range 2=[0,1] from rfl,List.filter_eq_self.2 (fun k hk=>by
  simp only[List.mem_cons,List.not_mem_nil,or_false] at hk;rcases hk with rfl | rfl
  ·exact decide_eq_true e0
  ·exact decide_eq_true e1)]
 rfl
theorem fac_eq:∃ L:List Int,P318 zf7 [[1]]=some (L,.nil)∧L.length=2:=by obtain ⟨f1,l1,n1,_⟩:=fac_fit;have hat:atE zf7 [[1]]=0:=zfI.2 fun p hp=>(by rw[mem_singleton.1 hp];unfold atF;rw[if_pos f1,l1,if_pos rfl]);refine ⟨yB zf7 [1], ?_,fac_dirty⟩;rw[P318_eq _ (by simp) (by simp),if_pos (je.2 fac_cube),if_pos hat,List.map_cons,List.map_nil,n1]
theorem sol_keeps {o:List Dim} (ok:CubeOk o) {l x:List Entry} {q:List Int} (hx:∀ p,p≠q->zhR x p=zhR l p):∀ (r:Nat) (p:List Int),Fit o p->rkP o p < r->¬ RT (ju o) (qA o p) (qA o q)->sol o x p=sol o l p:=by
 have hpos:=fun d (hd:d∈o)=>((ok.out.dims d hd).len).1;intro r
 induction r with
 | zero=>intro p _ h;omega
 | succ r ih =>
  intro p hf hr hn;rw[sol_eq ok hf,sol_eq ok hf,zaI hf (g':=sol o l) fun z hz=>by
   obtain ⟨h1,h2⟩:=zaW ok hf hz;exact ih z h1 (by omega) fun h=>hn (h.cons (asks_nd hpos hf hz))]
  unfold zcq;split
  ·rw[hx p fun e=>hn (by rw[e];exact .inl rfl)]
  ·rfl
theorem zi9 {o:List Dim} {a k:Nat} (hk:k < sizeN o):((k:Int)∈yB o [a])↔RT (ju o) k a:=by
 unfold yB;rw[ze3];simp only[mem_singleton,exists_eq_left,decide_eq_true_eq];constructor
 ·rintro ⟨j,e,_,h⟩
  rwa [show k=j by omega]
 ·intro h;exact ⟨k,rfl,hk,h⟩
theorem leafs_in {o:List Dim} {a k:Nat} (hk:k < sizeN o) (hl:jE o (qq o k).1=true):((k:Int)∈zcj o a)↔RT (ju o) a k:=by
 unfold zcj;rw[ze3];simp only[Bool.and_eq_true,decide_eq_true_eq];constructor
 ·rintro ⟨j,e,_,h⟩;rw[show k=j by omega];exact h.1
 ·intro h;exact ⟨k,rfl,hk,h,hl⟩
theorem p314 (o:List Dim) (l:List Entry) (hl:Lst Entry.gd l) (q:List Int) (hq:q.length<=9223372036854775807) (n:Int) (p:List Int) (hp:p.length<=9223372036854775807):P314 o l q n p=some true:=by
 obtain ⟨L,hL,hL2⟩:=fac_eq;have hL':P318 ([Dim.mk (⟨#[97]⟩:ByteArray) (0:Int) ([Member.mk (⟨#[98]⟩:ByteArray) (-1:Int) (0:Int) (⟨#[]⟩:ByteArray),Member.mk (⟨#[99]⟩:ByteArray) (0:Int) (1:Int) (⟨#[]⟩:ByteArray)]:List Member)]:List Dim) ([([(1:Int)]:List Int)]:List (List Int))=some (L,.nil):=hL;simp only[P314,S314,hL',zj,qZ,Bool.not_true,zg,zJ,q8,hL2,show ((2:Nat):Int)=2 from rfl,not_true,decide_false,P25_eq hl hq,zB];rcases Classical.em (¬ (oneL o l ⟨q,n,false⟩).2=0) with hone | hone
 ·simp only[decide_eq_false hone,Bool.not_false,zl]
 replace hone:=Classical.not_not.1 hone;obtain ⟨okl,hfq,hlq,hv,hput⟩:=set_ok hone;have okx:EntsOk o (zdX l q n):=okl.put hfq hlq hv;have gx:Lst Entry.gd (zdX l q n):=okx.gd okl.out.dm;simp only[decide_eq_true hone,Bool.not_true,zg,hput,P332_eq hl,P332_eq gx,zj];by_cases hz:(zaD o).2.2=0
 ·have ok:=je.1 hz;have c1:wu o l=0:=(zh5 hl).2 ⟨ok,okl,hl⟩;have c2:wu o (zdX l q n)=0:=(zh5 gx).2 ⟨ok,okx,gx⟩;have hsz:=(ok.out.sizeN).2;have hpos:=fun d (hd:d∈o)=>((ok.out.dims d hd).len).1;have hat:atE o [q]=0:=zfI.2 fun p hp=>(by rw[mem_singleton.1 hp];unfold atF;rw[if_pos (q9.2 hfq),hlq,if_pos rfl]);have e7:P318 o [q]=some (yB o [qA o q],.nil):=by rw[P318_eq _ (by simp) (fun p hp=>by rw[mem_singleton.1 hp];exact hq),if_pos hz,if_pos hat];rfl
  have hdl:=zkc o [qA o q];have hkeep:∀ i,i < sizeN o->¬ RT (ju o) i (qA o q)->(zkp o (zdX l q n))[i]? = (zkp o l)[i]?:=fun i hi hn=>(by unfold zkp;rw[getElem?_map,getElem?_map,List.getElem?_range hi];have hfi:Fit o (qq o i).1:=wt ok.out i;simp only[map_some];rw[sol_keeps ok (fun p hp=>zbm l n (fun e=>hp e.symm)) _ _ hfi (Nat.lt_succ_self _) (by rw[zja hpos hi];exact hn)]);have hloop:=zU (B:=zdO P339 (zkp o l,.nil) (zkp o (zdX l q n),.nil) (yB o [qA o q],.nil)) (fun i=>(i:Int)) (sizeN o) (fun i hi=>by
   have e4:wi ((i:Int)+1)=((i+1:Nat):Int):=by rw[jv (by omega) (by omega)];omega
   have g1:(zkp o l)[i]? = some ((zkp o l).getD i ⟨0,0⟩):=by rw[List.getD_eq_getElem?_getD,List.getElem?_eq_getElem (by rw[zcK];exact hi)];rfl
   simp only[zdO];rw[zt,if_pos (by rw[zcK];omega)];simp only[zir _ _ (show (yB o [qA o q]).length<=9223372036854775807 by omega),zj];by_cases hd:(i:Int)∈yB o [qA o q]
   ·simp only[decide_eq_true hd,Bool.not_true,zg,zJ,q8,yG,e4]
   ·have hk:=hkeep i hi fun h=>hd ((zi9 hi).2 h);simp only[decide_eq_false hd,Bool.not_false,zl,zh,g1,hk.trans g1,zj,zJ,q8,decide_true,Bool.and_true,Bool.not_true,zg,yG,e4])
  have hend:lpO (zdO P339 (zkp o l,.nil) (zkp o (zdX l q n),.nil) (yB o [qA o q],.nil)) (0:Int)=some (.inl ((sizeN o:Nat):Int)):=(by rw[show (0:Int)=((0:Nat):Int) from rfl,hloop,qw (y:=((sizeN o:Nat):Int)) (by simp only[zdO];rw[zt,if_neg (by rw[zcK];omega)];rfl)]);have hpq:zax o q=0:=zcA.2 ⟨ok.out,hfq⟩;have e16:P132 o q=some (((qA o q:Nat):Int),.nil):=by rw[zjx o q hq,if_pos hpq]
  simp only[if_pos c1,if_pos c2,qZ,Bool.not_true,zg,zJ,q8,e7,zj,zcK,not_true,decide_false,jh,hend,e16,zjx o p hp,P317_eq o p hp,if_pos hz];by_cases hf0:ja o p=0
  ·have hf:=q9.1 hf0;have hpp:zax o p=0:=zcA.2 ⟨ok.out,hf⟩;have hll:=zj4 o (qA o p);have m1:=leafs_in (o:=o) (a:=qA o p) (yp hfq) (by rw[yq hpos hfq];exact hlq);have m2:=zi9 (o:=o) (a:=qA o q) (yp hf);simp only[if_pos hpp,if_pos hf0,qZ,Bool.not_true,zg,zl,zir _ _ (show (zcj o (qA o p)).length<=9223372036854775807 by omega),zir _ _ (show (yB o [qA o q]).length<=9223372036854775807 by omega),zj,zJ,q8];simp;exact m1.trans m2.symm
  ·have hpp:¬ zax o p=0:=fun h=>hf0 (q9.2 (zcA.1 h).2);simp only[if_neg hpp,if_neg hf0,zB,decide_eq_false hpp,decide_eq_false hf0,Bool.not_false,zl]
 ·have c1:wu o l=(zaD o).2.2:=by unfold wu;rw[if_neg hz]
  have c2:wu o (zdX l q n)=(zaD o).2.2:=by unfold wu;rw[if_neg hz]
  simp only[c1,c2,if_neg hz,zB,decide_eq_false hz,Bool.not_false,zl,zJ,q8];simp
end Ab
