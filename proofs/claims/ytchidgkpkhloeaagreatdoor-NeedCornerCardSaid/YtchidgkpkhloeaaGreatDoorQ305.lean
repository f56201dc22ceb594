/-
  Plain law: of a square's whole, and of one leaf of it, who is needed and who is dirty.
-/
import Derived.Test.YtchidgkpkhloeaaGreatDoorW305
import Derived.Test.YtchidgkpkhloeaaGreatDoorHP
open List (mem_map mem_range)
open Int (natCast_mul)
set_option linter.unusedVariables false
set_option linter.unusedSimpArgs false
namespace Ab
open Go
theorem sq5_out:∀ n,n < 10->0 < n->(yK (zF n)).2.2=0:=by decide+kernel
theorem zal:∀ n,n < 10->sizeN (zF n)=(n+1) * (n+1):=by decide+kernel
theorem sq5_form:∀ n,n < 10->(zF n).all (fun d=>d.members.all fun m=>decide (m.formula=⟨#[]⟩))=true:=by decide+kernel
theorem zeK {n:Nat} (h:n < 10):noForm (zF n):=fun d hd m hm=>by
 have:=List.all_eq_true.1 (sq5_form n h) d hd;exact of_decide_eq_true (List.all_eq_true.1 this m hm)
theorem zbz {n:Nat} (h:n < 10) (h0:0 < n):CubeOk (zF n):=zih (zg3.1 (sq5_out n h h0)) (zeK h)
theorem zdz:∀ n,n < 10->0 < n->∀ x,x < (n+1) * (n+1)->(qn (zF n) x).1=[((x / (n+1):Nat):Int),((x % (n+1):Nat):Int)]:=by decide+kernel
theorem zgV:∀ n,n < 10->0 < n->∀ x,x < (n+1) * (n+1)->zac (zF n) [((x / (n+1):Nat):Int),((x % (n+1):Nat):Int)]=decide (1<=x / (n+1)∧1<=x % (n+1)):=by decide+kernel
def askC5 (o:List Dim) (p:List Int):List Nat:=if byL o p < 0 then [] else
 match o[(byL o p).toNat]?,p[(byL o p).toNat]? with
 | some d,some i=>(cntP2 d (i.toNat:Nat)).map fun k=>jG o (p.set (byL o p).toNat k)
 | _,_=>[]
def askE5 (n x:Nat):List Nat:=if x / (n+1)=0 then (List.range n).map fun m=>(m+1) * (n+1)+x % (n+1) else if x % (n+1)=0 then (List.range n).map fun m=>x+(m+1) else []
theorem sq5_step:∀ n,n < 10->0 < n->∀ x,x < (n+1) * (n+1)->askC5 (zF n) [((x / (n+1):Nat):Int),((x % (n+1):Nat):Int)]=askE5 n x:=by decide+kernel
theorem sq5_count:∀ n,n < 10->0 < n->((List.range ((n+1) * (n+1))).filter fun x=>decide (1<=x / (n+1)∧1<=x % (n+1))).length=n * n:=by decide+kernel
theorem yq {n x y:Nat}:y∈askE5 n x↔∃ m,m < n∧((x / (n+1)=0∧y=(m+1) * (n+1)+x % (n+1))∨(x / (n+1)≠0∧x % (n+1)=0∧y=x+(m+1))):=by
 unfold askE5;split
 ·rename_i h;simp only[mem_map,mem_range];exact ⟨fun ⟨m,h1,h2⟩=>⟨m,h1,.inl ⟨h,h2.symm⟩⟩,fun ⟨m,h1,h2⟩=>⟨m,h1,by rcases h2 with h2 | h2;exact h2.2.symm;exact absurd h h2.1⟩⟩
 ·rename_i h;split
  ·rename_i h';simp only[mem_map,mem_range];exact ⟨fun ⟨m,h1,h2⟩=>⟨m,h1,.inr ⟨h,h',h2.symm⟩⟩,fun ⟨m,h1,h2⟩=>⟨m,h1,by rcases h2 with h2 | h2;exact absurd h2.1 h;exact h2.2.2.symm⟩⟩
  ·rename_i h';exact ⟨fun e=>(by cases e),fun ⟨m,h1,h2⟩=>by rcases h2 with h2 | h2;exact absurd h2.1 h;exact absurd h2.2.1 h'⟩
theorem nd_step {o:List Dim} (hf:noForm o) (hout:OutOk o) {x y:Nat} (hx:x < sizeN o):y∈nd (qQ o) x↔y∈askC5 o (qn o x).1:=by
 have hg:(qQ o).getD x []=zfG o (qn o x).1:=(by unfold qQ;rw[List.getD_eq_getElem?_getD,List.getElem?_map,List.getElem?_range hx];rfl);have hfit:Fit o (qn o x).1:=wC hout x;unfold nd;rw[hg];generalize (qn o x).1=p at hfit;unfold zfG askC5;by_cases hb:byL o p < 0
 ·rw[if_pos hb,if_pos hb];simp
 rw[if_neg hb,if_neg hb];obtain ⟨d,i,hd,hi,_⟩:=byL_is (show 0<=byL o p by omega);have hr:=hfit.mem _ _ _ hi hd;rw[hd,hi];have hm:=List.getElem?_eq_getElem (l:=d.members) (i:=i.toNat) (by omega);have hraw:zir d i.toNat=cntP2 d (i.toNat:Nat):=(by unfold zir;rw[hm];simp only;rw[if_pos (hf d (List.mem_of_getElem? hd) _ (List.getElem_mem _))]);have hset:=(yX (cntP2 d (i.toNat:Nat))).2;simp only[mem_map,jz,hraw];constructor
 ·rintro ⟨z,⟨k,hk,rfl⟩,rfl⟩;exact ⟨k,(hset k).1 hk,by rw[Int.toNat_natCast]⟩
 ·rintro ⟨k,hk,rfl⟩;exact ⟨_,⟨k,(hset k).2 hk,rfl⟩,by rw[Int.toNat_natCast]⟩
section
variable {n:Nat} (h:n < 10) (h0:0 < n)
include h h0
theorem zcY {x y:Nat}:y∈nd (qQ (zF n)) x↔x < (n+1) * (n+1)∧y∈askE5 n x:=by
 have ok:=zbz h h0;by_cases hx:x < (n+1) * (n+1)
 ·rw[nd_step (zeK h) ok.out (by rw[zal n h];exact hx),zdz n h h0 x hx,sq5_step n h h0 x hx];exact ⟨fun e=>⟨hx,e⟩,fun e=>e.2⟩
 ·refine ⟨fun hm => ?_,fun e=>absurd e.1 hx⟩;have:(qQ (zF n)).getD x []=[]:=(by rw[List.getD_eq_getElem?_getD,List.getElem?_eq_none (by simp only[qQ,List.length_map,List.length_range,zal n h];omega)];rfl);unfold nd at hm;rw[this] at hm;cases hm
theorem zfY {i k:Nat} (hi:i < n+1) (hk:k < n+1):i * (n+1)+k < (n+1) * (n+1)∧Fit (zF n) [(i:Int),(k:Int)]∧jG (zF n) [(i:Int),(k:Int)]=i * (n+1)+k∧zac (zF n) [(i:Int),(k:Int)]=decide (1<=i∧1<=k):=by
 have hx:i * (n+1)+k < (n+1) * (n+1):=by
  have:i * (n+1)<=n * (n+1):=Nat.mul_le_mul_right _ (by omega);have e:(n+1) * (n+1)=n * (n+1)+(n+1):=by rw[Nat.add_mul,Nat.one_mul]
  omega
 have e1:(i * (n+1)+k) / (n+1)=i:=by rw[Nat.mul_comm,Nat.mul_add_div (by omega),Nat.div_eq_of_lt hk];rfl
 have e2:(i * (n+1)+k) % (n+1)=k:=by rw[Nat.mul_comm,Nat.mul_add_mod,Nat.mod_eq_of_lt hk]
 have ok:=zbz h h0;have hd:=zdz n h h0 _ hx;have hl:=zgV n h h0 _ hx;rw[e1,e2] at hd hl;refine ⟨hx,by rw[← hd];exact wC ok.out _, ?_,hl⟩;rw[← hd];exact zho (fun d hd=>((ok.out.dims d hd).len).1) (by rw[zal n h];exact hx)
theorem jK:n=1∨n=2∨n=3∨n=4∨n=5∨n=6∨n=7∨n=8∨n=9:=by omega
theorem sq5_leafs:(zdg (zF n) 0).length=n * n:=by
 have ok:=zbz h h0;have hs:=zal n h;unfold zdg;rw[List.length_map,hs,← sq5_count n h h0];congr 1;refine List.filter_congr fun x hx => ?_;have hx:=mem_range.1 hx;rw[zdz n h h0 x hx,zgV n h h0 x hx,Bool.eq_iff_iff];simp only[Bool.and_eq_true,decide_eq_true_eq,and_iff_right_iff_imp];rintro ⟨h1,h2⟩;have hpos:0 < (n+1) * (n+1):=by omega
 have a1:x / (n+1) * (n+1)∈nd (qQ (zF n)) 0:=(zcY h h0).2 ⟨hpos,yq.2 ⟨x / (n+1) - 1, ?_,.inl ⟨by simp, ?_⟩⟩⟩;have a2:x∈nd (qQ (zF n)) (x / (n+1) * (n+1)):=(zcY h h0).2 ⟨?_,yq.2 ⟨x % (n+1) - 1, ?_,.inr ⟨?_, ?_, ?_⟩⟩⟩
 ·exact .inr (.more a1 (.one a2))
 ·rcases jK h h0 with rfl | rfl | rfl | rfl | rfl | rfl | rfl | rfl | rfl<;>omega
 ·rcases jK h h0 with rfl | rfl | rfl | rfl | rfl | rfl | rfl | rfl | rfl<;>omega
 ·rcases jK h h0 with rfl | rfl | rfl | rfl | rfl | rfl | rfl | rfl | rfl<;>omega
 ·rcases jK h h0 with rfl | rfl | rfl | rfl | rfl | rfl | rfl | rfl | rfl<;>omega
 ·rcases jK h h0 with rfl | rfl | rfl | rfl | rfl | rfl | rfl | rfl | rfl<;>omega
 ·rcases jK h h0 with rfl | rfl | rfl | rfl | rfl | rfl | rfl | rfl | rfl<;>omega
 ·rcases jK h h0 with rfl | rfl | rfl | rfl | rfl | rfl | rfl | rfl | rfl<;>omega
theorem sq5_dirty {i k:Nat} (hi1:1<=i) (hi:i<=n) (hk1:1<=k) (hk:k<=n):dirtyL (zF n) [i * (n+1)+k]=[0,(k:Int),((i * (n+1):Nat):Int),((i * (n+1)+k:Nat):Int)]:=by
 have hs:=zal n h;have hmul:n+1<=i * (n+1):=Nat.le_mul_of_pos_left _ hi1;have hlt:i * (n+1)+k < (n+1) * (n+1):=(zfY h h0 (show i < n+1 by omega) (show k < n+1 by omega)).1;have key:∀ x,RT (qQ (zF n)) x (i * (n+1)+k)↔x=0∨x=k∨x=i * (n+1)∨x=i * (n+1)+k:=by
  intro x;constructor
  ·intro hr;refine hr.back (S:=fun x=>x=0∨x=k∨x=i * (n+1)∨x=i * (n+1)+k) (fun j m hm hS => ?_) (.inr (.inr (.inr rfl)));obtain ⟨hj,hm⟩:=(zcY h h0).1 hm;obtain ⟨q,hq,hm⟩:=yq.1 hm;show j=0∨j=k∨j=i * (n+1)∨j=i * (n+1)+k;have hS:m=0∨m=k∨m=i * (n+1)∨m=i * (n+1)+k:=hS;rcases jK h h0 with rfl | rfl | rfl | rfl | rfl | rfl | rfl | rfl | rfl<;>omega
  ·have b1:i * (n+1)+k∈nd (qQ (zF n)) (i * (n+1)):=(zcY h h0).2 ⟨by omega,yq.2 ⟨k - 1,by omega,.inr ⟨by rw[Nat.mul_div_cancel _ (by omega)];omega,Nat.mul_mod_left _ _,by omega⟩⟩⟩;have b2:i * (n+1)+k∈nd (qQ (zF n)) k:=(zcY h h0).2 ⟨by omega,yq.2 ⟨i - 1,by omega,.inl ⟨Nat.div_eq_of_lt (by omega),by rw[Nat.mod_eq_of_lt (by omega),show i - 1+1=i by omega]⟩⟩⟩;have b3:i * (n+1)∈nd (qQ (zF n)) 0:=(zcY h h0).2 ⟨by omega,yq.2 ⟨i - 1,by omega,.inl ⟨by simp,by rw[show i - 1+1=i by omega];simp⟩⟩⟩;rintro (rfl | rfl | rfl | rfl)
   ·exact .inr (.more b3 (.one b1))
   ·exact .inr (.one b2)
   ·exact .inr (.one b1)
   ·exact .inl rfl
 unfold dirtyL;refine wX (zc8 _ _) ?_ fun x => ?_
 ·simp only[List.pairwise_cons,List.mem_cons,List.not_mem_nil,or_false,forall_eq_or_imp,forall_eq,List.Pairwise.nil,and_true,false_imp_iff,implies_true];omega
 ·rw[zg0];simp only[List.mem_singleton,exists_eq_left,decide_eq_true_eq,key,List.mem_cons,List.not_mem_nil,or_false,hs];constructor
  ·rintro ⟨y,rfl,_,hy⟩;omega
  ·intro hx;refine ⟨x.toNat,by omega, ?_, ?_⟩<;>omega
end
theorem p305 (n i k:Int):P305 n i k=some true:=by
 simp only[P305,S305,zA];by_cases c1:n < 1
 ·rw[if_pos c1];rfl
 rw[if_neg c1];by_cases c2:9 < n
 ·rw[if_pos c2];rfl
 rw[if_neg c2];by_cases c3:i < 1
 ·rw[if_pos c3];rfl
 rw[if_neg c3];by_cases c4:n < i
 ·rw[if_pos c4];rfl
 rw[if_neg c4];by_cases c5:k < 1
 ·rw[if_pos c5];rfl
 rw[if_neg c5];by_cases c6:n < k
 ·simp only[qj,yO,decide_eq_true c6,zt]
 simp only[qj,yO,decide_eq_false c6,zj];obtain ⟨n,rfl⟩:∃ m:Nat,n=m:=⟨n.toNat,by omega⟩;obtain ⟨i,rfl⟩:∃ m:Nat,i=m:=⟨i.toNat,by omega⟩;obtain ⟨k,rfl⟩:∃ m:Nat,k=m:=⟨k.toNat,by omega⟩;have hn:n < 10:=by omega
 have h0:0 < n:=by omega
 have ok:=zbz hn h0;have hz:(zcU (zF n)).2.2=0:=yr.2 ok;obtain ⟨_,f1,f2,_⟩:=zfY hn h0 (show 0 < n+1 by omega) (show 0 < n+1 by omega);obtain ⟨g0,g1,g2,g3⟩:=zfY hn h0 (show i < n+1 by omega) (show k < n+1 by omega);have f2':jG (zF n) [0,0]=0:=by rw[show ([0,0]:List Int)=[((0:Nat):Int),((0:Nat):Int)] from rfl,f2];simp
 have hat:atE (zF n) [[(i:Int),(k:Int)]]=0:=zhz.2 fun p hp=>(by rw[List.mem_singleton.1 hp];unfold atF;rw[if_pos (zaY.2 g1),g3,if_pos (decide_eq_true (by omega))]);have hm:i * (n+1)<=9 * 10:=Nat.mul_le_mul (by omega) (by omega);have hnn:n * n<=9 * 9:=Nat.mul_le_mul (by omega) (by omega);have w1:wi ((n:Int) * (n:Int))=((n * n:Nat):Int):=by rw[j9 (by rw[← natCast_mul];omega) (by rw[← natCast_mul];omega),natCast_mul]
 have w2:wi ((n:Int)+1)=((n+1:Nat):Int):=by rw[j9 (by omega) (by omega)];omega
 have w3:wi ((i:Int) * ((n+1:Nat):Int))=((i * (n+1):Nat):Int):=by rw[j9 (by rw[← natCast_mul];omega) (by rw[← natCast_mul];omega),natCast_mul]
 have w4:wi (((i * (n+1):Nat):Int)+(k:Int))=((i * (n+1)+k:Nat):Int):=by rw[j9 (by omega) (by omega)];omega
 have e1:P317 (zF n) [0,0]=some (zdg (zF n) 0,.nil):=by rw[P317_eq _ _ (by simp),if_pos hz,if_pos (zaY.2 (show Fit (zF n) [0,0] from f1)),f2']
 have e2:P318 (zF n) [[(i:Int),(k:Int)]]=some ([0,(k:Int),((i * (n+1):Nat):Int),((i * (n+1)+k:Nat):Int)],.nil):=(by rw[P318_eq _ (by simp) (by simp),if_pos hz,if_pos hat,List.map_cons,List.map_nil,g2,sq5_dirty hn h0 (by omega) (by omega) (by omega) (by omega)]);simp only[P22_eq n (by omega),zB,e1,e2,yl,zt,sq5_leafs hn h0,w1,w2,w3,w4];simp[zq]
end Ab
