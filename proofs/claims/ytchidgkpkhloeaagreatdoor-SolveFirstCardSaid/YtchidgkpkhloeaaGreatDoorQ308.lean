/-
  Plain law: a ratio of sums is told where its dim solves behind the other one, and the sum of ratios where it solves ahead.
-/
import Derived.Test.YtchidgkpkhloeaaGreatDoorW308
import Derived.Test.YtchidgkpkhloeaaGreatDoorH8
import Derived.Test.YtchidgkpkhloeaaGreatDoorC9
namespace Ab
open Go
set_option linter.unusedVariables false
set_option linter.unusedSimpArgs false
theorem names_get {names:List ByteArray} {s:ByteArray} (g:ByteArray→Cell) (h:s∈names):(names.map g).getD (nmI names s).toNat ⟨0,0⟩=g s:=by
 obtain ⟨n,h1,h2⟩:=nmI_in h
 rw [h1,Int.toNat_natCast,List.getD_eq_getElem?_getD,List.getElem?_map,List.getElem?_eq_getElem h2]
 simp only [Option.map_some,Option.getD_some,nmI_get h1 h2]
theorem rdT_text {e:Fx} (hf:e.Fine) (hz:e.sz≤30) (hs:e.text.size≤100):(rdT e.text).1=e.po 0∧(rdT e.text).2.2=0:=by
 have hb:=P248_back hf hz hs
 rw [P248_eq] at hb
 simp only [Option.some.injEq,Prod.mk.injEq] at hb
 have h2:=errOf_nil (e:=(rdT e.text).2.2)
 rw [hb.2.2] at h2
 exact ⟨hb.1,by simpa using h2⟩
theorem ev_text {e:Fx} (hf:e.Fine) (hz:e.sz≤30) (hs:e.text.size≤100) (names:List ByteArray) (cells:List Cell):(evL (rdT e.text).1 names cells (rdT e.text).1.length).getD ((rdT e.text).1.length - 1) ⟨0,0⟩=e.val names cells:=by
 rw [(rdT_text hf hz hs).1]
 have ht:=tr_po e []
 have hp:=Fx.sz_pos e
 have hl:=po_len e 0
 simp only [List.nil_append,List.length_nil,Nat.zero_add] at ht
 rw [hl]
 exact val_eq names cells e (e.sz - 1) e.sz ht hf (by omega) (by omega)
def ratM:List Member:=[⟨⟨#[114,97,116,105,111]⟩, -1,0,⟨#[112,47,113]⟩⟩,⟨⟨#[112]⟩, -1,0,⟨#[]⟩⟩,⟨⟨#[113]⟩, -1,0,⟨#[]⟩⟩]
def sumM:List Member:=[⟨⟨#[97,108,108]⟩, -1,0,⟨#[]⟩⟩,⟨⟨#[117]⟩,0,1,⟨#[]⟩⟩,⟨⟨#[118]⟩,0,1,⟨#[]⟩⟩]
def ratD (b:Bool):Dim:=⟨⟨#[109]⟩,if b then 9 else 0,ratM⟩
def sumD:Dim:=⟨⟨#[116]⟩,5,sumM⟩
def ratO (b:Bool):List Dim:=[ratD b,sumD]
def ratE (a b c d:Int):List Entry:=[⟨[1,1],a⟩,⟨[1,2],c⟩,⟨[2,1],b⟩,⟨[2,2],d⟩]
def ratF:Fx:=.bin 6 (.ref ⟨#[112]⟩) (.ref ⟨#[113]⟩)
theorem ratF_text:ratF.text=⟨#[112,47,113]⟩:=by decide+kernel
theorem ratF_fine:ratF.Fine:=⟨by omega,by omega,by show nameBad _=false;decide+kernel,by show nameBad _=false;decide+kernel⟩
theorem ratF_sz:ratF.sz≤30:=by decide
theorem ratF_size:ratF.text.size≤100:=by rw [ratF_text];decide
theorem rat_rd:(rdT ⟨#[112,47,113]⟩).1=ratF.po 0∧(rdT ⟨#[112,47,113]⟩).2.2=0:=by
 have:=rdT_text ratF_fine ratF_sz ratF_size
 rwa [ratF_text] at this
theorem setI_nil':setI []=[]:=strictI_ext (setI_ok _).1 (by simp) (setI_ok []).2
theorem setI_two:setI [1,2]=[1,2]:=strictI_ext (setI_ok _).1 (by simp) (setI_ok [1,2]).2
theorem rat_out:∀ b:Bool,(outErr (ratO b)).2.2=0:=by decide+kernel
theorem rat_dim:∀ b:Bool,(dimErr (ratD b)).2=0:=by decide+kernel
theorem rat_cnt:∀ b:Bool,cntP2 (ratD b) (1:Nat)=[]∧cntP2 (ratD b) (2:Nat)=[]:=by decide+kernel
theorem rat_need (b:Bool):needN (ratD b) 0=[1,2]∧needN (ratD b) 1=[]∧needN (ratD b) 2=[]:=by
 refine ⟨?_, ?_, ?_⟩
 ·have h:rawN (ratD b) 0=[1,2]:=by
   show (if (⟨#[112,47,113]⟩:ByteArray)=⟨#[]⟩ then cntP2 (ratD b) (0:Nat) else (refL (rdT ⟨#[112,47,113]⟩).1).map (whereM (ratD b).members))=_
   rw [if_neg (by decide),rat_rd.1]
   show (refL (ratF.po 0)).map (whereM ratM)=_
   decide+kernel
  unfold needN
  rw [h,setI_two]
 ·have h:rawN (ratD b) 1=cntP2 (ratD b) (1:Nat):=by
   show (if (⟨#[]⟩:ByteArray)=⟨#[]⟩ then cntP2 (ratD b) (1:Nat) else (refL (rdT ⟨#[]⟩).1).map (whereM (ratD b).members))=_
   rw [if_pos rfl]
  unfold needN
  rw [h,(rat_cnt b).1,setI_nil']
 ·have h:rawN (ratD b) 2=cntP2 (ratD b) (2:Nat):=by
   show (if (⟨#[]⟩:ByteArray)=⟨#[]⟩ then cntP2 (ratD b) (2:Nat) else (refL (rdT ⟨#[]⟩).1).map (whereM (ratD b).members))=_
   rw [if_pos rfl]
  unfold needN
  rw [h,(rat_cnt b).2,setI_nil']
theorem rat_allN (b:Bool):allN (ratD b)=[[1,2],[],[]]:=by
 obtain ⟨h0,h1,h2⟩:=rat_need b
 show [needN (ratD b) 0,needN (ratD b) 1,needN (ratD b) 2]=_
 rw [h0,h1,h2]
theorem rat_self:∀ i,i < 3→selfN [[1,2],[],[]] i=some false:=by decide+kernel
theorem rat_memF (b:Bool):∀ i,i < 3→memF (ratD b) i=none:=by
 obtain ⟨h0,h1,h2⟩:=rat_need b
 intro i hi
 obtain rfl | rfl | rfl:i=0∨i=1∨i=2:=by omega
 ·show (if (⟨#[112,47,113]⟩:ByteArray)≠⟨#[]⟩∧(rdT ⟨#[112,47,113]⟩).2.2≠0 then some (rdT ⟨#[112,47,113]⟩).2.2 else if hasI (needN (ratD b) 0) (-1)=true then some 5 else none)=_
  rw [if_neg (fun h=>h.2 rat_rd.2),h0,if_neg (by decide)]
 ·show (if (⟨#[]⟩:ByteArray)≠⟨#[]⟩∧(rdT ⟨#[]⟩).2.2≠0 then some (rdT ⟨#[]⟩).2.2 else if hasI (needN (ratD b) 1) (-1)=true then some 5 else none)=_
  rw [if_neg (fun h=>h.1 rfl),h1,if_neg (by decide)]
 ·show (if (⟨#[]⟩:ByteArray)≠⟨#[]⟩∧(rdT ⟨#[]⟩).2.2≠0 then some (rdT ⟨#[]⟩).2.2 else if hasI (needN (ratD b) 2) (-1)=true then some 5 else none)=_
  rw [if_neg (fun h=>h.1 rfl),h2,if_neg (by decide)]
theorem rat_rules (b:Bool):(rulesE (ratD b)).2=0:=by
 rw [show rulesE (ratD b)=rulesG (ratD b) from if_neg (fun h=>h (rat_dim b))]
 unfold rulesG
 have hl:(ratD b).members.length=3:=rfl
 rw [hl,show (List.range 3).findSome? (fun i=>(memF (ratD b) i).map fun e=>((i:Int),e))=none from List.findSome?_eq_none_iff.2 fun i hi=>by rw [rat_memF b i (List.mem_range.1 hi)];rfl]
 simp only
 rw [show (List.range 3).findSome? (fun i=>(ringF (ratD b) i).map fun e=>((i:Int),e))=none from List.findSome?_eq_none_iff.2 fun i hi=>by
  unfold ringF
  rw [rat_allN b,rat_self i (List.mem_range.1 hi),if_neg (by decide)]
  rfl]
theorem rat_cube (b:Bool):CubeOk (ratO b):=by
 have ok:=out_ok.1 (rat_out b)
 refine ⟨ok,fun d hd => ?_⟩
 rcases List.mem_cons.1 hd with rfl | hd
 ·exact rat_rules b
 ·rcases List.mem_cons.1 hd with rfl | hd
  ·refine rules_plain (ok.dims sumD (by simp [ratO])) ?_
   simp [sumD,sumM]
  ·cases hd
section
variable {a b c d:Int} (ha:0≤a∧a≤1000) (hb:1≤b∧b≤1000) (hc:0≤c∧c≤1000) (hd:1≤d∧d≤1000)
theorem rat_fit:∀ (s:Bool) (i:Nat),i < 3→∀ k:Nat,k < 3→fitsE (ratO s) [(i:Int),(k:Int)]=0:=by decide+kernel
theorem rat_leaf:∀ (s:Bool) (i:Nat),i < 3→∀ k:Nat,k < 3→0 < i→0 < k→leafP (ratO s) [(i:Int),(k:Int)]=true:=by decide+kernel
theorem rat_by:∀ (s:Bool) (i:Nat),i < 3→∀ k:Nat,k < 3→byL (ratO s) [(i:Int),(k:Int)]=if i=0 then (if k=0 then (if s then 0 else 1) else 0) else if k=0 then 1 else -1:=by decide+kernel
theorem rat_leafs (s:Bool) (i k:Nat) (hi:i < 3) (hk:k < 3) (h0:0 < i) (h1:0 < k):sol (ratO s) (ratE a b c d) [(i:Int),(k:Int)]=cellL (getL (ratE a b c d) [(i:Int),(k:Int)]):=by
 rw [sol_eq (rat_cube s) (fits_ok.1 (rat_fit s i hi k hk))]
 unfold tellF
 rw [rat_by s i hi k hk,if_neg (show ¬ i=0 by omega),if_neg (show ¬ k=0 by omega),if_pos (show (-1:Int) < 0 by omega)]
theorem rat_sum (s:Bool) (i:Nat) (hi:i < 3) (h:byL (ratO s) [(i:Int),0]=1):sol (ratO s) (ratE a b c d) [(i:Int),0]=cplus (cplus ⟨0,0⟩ (sol (ratO s) (ratE a b c d) [(i:Int),1]) 1) (sol (ratO s) (ratE a b c d) [(i:Int),2]) 1:=by
 have hf:Fit (ratO s) [(i:Int),0]:=fits_ok.1 (rat_fit s i hi 0 (by omega))
 rw [sol_eq (rat_cube s) hf]
 unfold tellF
 rw [h,if_neg (by omega)]
 rfl
theorem rat_quo (s:Bool) (k:Nat) (hk:k < 3) (h:byL (ratO s) [0,(k:Int)]=0):sol (ratO s) (ratE a b c d) [0,(k:Int)]=cover (sol (ratO s) (ratE a b c d) [1,(k:Int)]) (sol (ratO s) (ratE a b c d) [2,(k:Int)]):=by
 have hf:Fit (ratO s) [0,(k:Int)]:=fits_ok.1 (rat_fit s 0 (by omega) k hk)
 rw [sol_eq (rat_cube s) hf]
 unfold tellF
 rw [h,if_neg (by omega)]
 have hp:(⟨#[112]⟩:ByteArray)∈refsOf (rdT ⟨#[112,47,113]⟩).1:=by
  rw [rat_rd.1]
  exact refsOf_mem.2 ⟨⟨2,0,⟨#[112]⟩,0,0⟩,by simp [ratF,Fx.po],rfl,rfl⟩
 have hq:(⟨#[113]⟩:ByteArray)∈refsOf (rdT ⟨#[112,47,113]⟩).1:=by
  rw [rat_rd.1]
  exact refsOf_mem.2 ⟨⟨2,0,⟨#[113]⟩,0,0⟩,by simp [ratF,Fx.po],rfl,rfl⟩
 show (if (⟨#[112,47,113]⟩:ByteArray)=⟨#[]⟩ then _ else (evL (rdT ⟨#[112,47,113]⟩).1 (refsOf (rdT ⟨#[112,47,113]⟩).1) ((refsOf (rdT ⟨#[112,47,113]⟩).1).map fun s'=>sol (ratO s) (ratE a b c d) (List.set [0,(k:Int)] 0 (whereM ratM s'))) (rdT ⟨#[112,47,113]⟩).1.length).getD ((rdT ⟨#[112,47,113]⟩).1.length - 1) ⟨0,0⟩)=_
 rw [if_neg (by decide)]
 have key:=ev_text ratF_fine ratF_sz ratF_size (refsOf (rdT ⟨#[112,47,113]⟩).1) ((refsOf (rdT ⟨#[112,47,113]⟩).1).map fun s'=>sol (ratO s) (ratE a b c d) (List.set [0,(k:Int)] 0 (whereM ratM s')))
 rw [ratF_text] at key
 rw [key]
 show cover (List.getD _ (nmI _ ⟨#[112]⟩).toNat _) (List.getD _ (nmI _ ⟨#[113]⟩).toNat _)=_
 rw [names_get _ hp,names_get _ hq]
 have w1:whereM ratM ⟨#[112]⟩=1:=by decide+kernel
 have w2:whereM ratM ⟨#[113]⟩=2:=by decide+kernel
 simp only [w1,w2]
 rfl
theorem rat_add {x y:Int} (hx:0≤x∧x≤1000000) (hy:0≤y∧y≤1000000):cplus (cplus ⟨0,0⟩ ⟨1,x⟩ 1) ⟨1,y⟩ 1=⟨1,x+y⟩:=by
 have e1:cplus ⟨0,0⟩ ⟨1,x⟩ 1=⟨1,x⟩:=by
  unfold cplus
  rw [if_neg (by simp),if_neg (by simp)]
  simp only [Int.one_mul,Int.zero_add,wiid (show -9223372036854775808≤x by omega) (show x≤9223372036854775807 by omega),cellOf]
  rw [if_pos (by simp [within];omega)]
 rw [e1]
 unfold cplus
 rw [if_neg (by simp),if_neg (by simp)]
 simp only [Int.one_mul,wiid (show -9223372036854775808≤y by omega) (show y≤9223372036854775807 by omega),wiid (show -9223372036854775808≤x+y by omega) (show x+y≤9223372036854775807 by omega),cellOf]
 rw [if_pos (by simp [within];omega)]
theorem rat_div {x y:Int} (hx:0≤x∧x≤2000) (hy:1≤y∧y≤2000):cover ⟨1,x⟩ ⟨1,y⟩=⟨1,Int.tdiv x y⟩∧0≤Int.tdiv x y∧Int.tdiv x y≤2000:=by
 have h1:0≤Int.tdiv x y:=Int.tdiv_nonneg hx.1 (by omega)
 have h2:Int.tdiv x y≤x:=Int.tdiv_le_self _ hx.1
 refine ⟨?_,h1,by omega⟩
 unfold cover
 rw [if_neg (by simp),if_neg (by simp),if_neg (by show ¬ y=0;omega)]
 simp only [wiid (show -9223372036854775808≤Int.tdiv x y by omega) (show Int.tdiv x y≤9223372036854775807 by omega),cellOf]
 rw [if_pos (by simp [within];omega)]
include ha hb hc hd
theorem rat_right (s:Bool):RightC (ratO s) (ratE a b c d):=by
 have hm:∀ e∈ratE a b c d,∃ i k:Nat,e.at_=[(i:Int),(k:Int)]∧0 < i∧i < 3∧0 < k∧k < 3∧0≤e.n∧e.n≤1000:=by
  intro e he
  simp only [ratE,List.mem_cons,List.not_mem_nil,or_false] at he
  rcases he with rfl | rfl | rfl | rfl
  ·exact ⟨1,1,rfl,by omega,by omega,by omega,by omega,ha.1,ha.2⟩
  ·exact ⟨1,2,rfl,by omega,by omega,by omega,by omega,hc.1,hc.2⟩
  ·exact ⟨2,1,rfl,by omega,by omega,by omega,by omega,by show 0≤b;omega,hb.2⟩
  ·exact ⟨2,2,rfl,by omega,by omega,by omega,by omega,by show 0≤d;omega,hd.2⟩
 refine ⟨rat_cube s,⟨(rat_cube s).out,fun e he => ?_,fun e he => ?_,fun e he => ?_,fun i x y h1 h2 => ?_⟩, ?_,fun e he => ?_⟩
 ·obtain ⟨i,k,h,_,h1,_,h2,_⟩:=hm e he
  rw [h]
  exact fits_ok.1 (rat_fit s i h1 k h2)
 ·obtain ⟨i,k,h,h3,h1,h4,h2,_⟩:=hm e he
  rw [h]
  exact rat_leaf s i h1 k h2 h3 h4
 ·obtain ⟨i,k,h,h3,h1,h4,h2,h5,h6⟩:=hm e he
  unfold valOk
  simp only [Bool.and_eq_true,decide_eq_true_eq]
  omega
 ·match i with
  | 0=>cases h1;cases h2;show cmpL [1,1] [1,2] < 0;decide
  | 1=>cases h1;cases h2;show cmpL [1,2] [2,1] < 0;decide
  | 2=>cases h1;cases h2;show cmpL [2,1] [2,2] < 0;decide
  | 3=>cases h2
  | i+4=>cases h1
 ·show (4:Nat)≤_;omega
 ·obtain ⟨i,k,h,h3,h1,h4,h2,h5,h6⟩:=hm e he
  refine ⟨?_,by unfold I64;omega⟩
  rw [h]
  refine ⟨by show (2:Nat)≤_;omega,fun x hx => ?_⟩
  simp only [List.mem_cons,List.not_mem_nil,or_false] at hx
  rcases hx with rfl | rfl
  ·unfold I64;omega
  ·unfold I64;omega
theorem rat_true (s:Bool):P308 a b c d s=some true:=by
 have hg:Lst Entry.gd (ratE a b c d):=(rat_right ha hb hc hd s).len
 have h0:=(cube_ok hg).2 (rat_right ha hb hc hd s)
 have hA:(allE (ratO s)).2.2=0:=allE_zero.2 (rat_cube s)
 have hF:fitsE (ratO s) [(0:Int),0]=0:=rat_fit s 0 (by omega) 0 (by omega)
 have h330:P330 (ratO s) (ratE a b c d) [(0:Int),0]=some (sol (ratO s) (ratE a b c d) [0,0],.nil):=by
  rw [P330_eq hg (by show (2:Nat)≤_;omega),if_pos h0,if_pos hF]
 have h331:P331 (ratO s) [(0:Int),0]=some (if s then 0 else 1,.nil):=by
  have hb:=rat_by s 0 (by omega) 0 (by omega)
  simp only [if_true] at hb
  rw [P331_eq _ _ (by show (2:Nat)≤_;omega),if_pos hA,if_pos hF,show byL (ratO s) [(0:Int),0]=_ from hb]
 have l11:sol (ratO s) (ratE a b c d) [1,1]=⟨1,a⟩:=rat_leafs s 1 1 (by omega) (by omega) (by omega) (by omega)
 have l12:sol (ratO s) (ratE a b c d) [1,2]=⟨1,c⟩:=rat_leafs s 1 2 (by omega) (by omega) (by omega) (by omega)
 have l21:sol (ratO s) (ratE a b c d) [2,1]=⟨1,b⟩:=rat_leafs s 2 1 (by omega) (by omega) (by omega) (by omega)
 have l22:sol (ratO s) (ratE a b c d) [2,2]=⟨1,d⟩:=rat_leafs s 2 2 (by omega) (by omega) (by omega) (by omega)
 have hb0:¬ b=0:=by omega
 have hd0:¬ d=0:=by omega
 have hbd:¬ b+d=0:=by omega
 have c1:¬ a < 0:=by omega
 have c2:¬ 1000 < a:=by omega
 have c3:¬ b < 1:=by omega
 have c4:¬ 1000 < b:=by omega
 have c5:¬ c < 0:=by omega
 have c6:¬ 1000 < c:=by omega
 have c7:¬ d < 1:=by omega
 have c8:¬ 1000 < d:=by omega
 have w1:wi (a+c)=a+c:=wiid (by omega) (by omega)
 have w2:wi (b+d)=b+d:=wiid (by omega) (by omega)
 cases s with
 | true =>
  have hv:sol (ratO true) (ratE a b c d) [0,0]=⟨1,Int.tdiv (a+c) (b+d)⟩:=by
   rw [show sol (ratO true) (ratE a b c d) [0,0]=_ from rat_quo true 0 (by omega) (rat_by true 0 (by omega) 0 (by omega))]
   rw [show sol (ratO true) (ratE a b c d) [1,((0:Nat):Int)]=_ from rat_sum true 1 (by omega) (rat_by true 1 (by omega) 0 (by omega))]
   rw [show sol (ratO true) (ratE a b c d) [2,((0:Nat):Int)]=_ from rat_sum true 2 (by omega) (rat_by true 2 (by omega) 0 (by omega))]
   rw [show sol (ratO true) (ratE a b c d) [((1:Nat):Int),1]=_ from l11,show sol (ratO true) (ratE a b c d) [((1:Nat):Int),2]=_ from l12,show sol (ratO true) (ratE a b c d) [((2:Nat):Int),1]=_ from l21,show sol (ratO true) (ratE a b c d) [((2:Nat):Int),2]=_ from l22,rat_add (by omega) (by omega),rat_add (by omega) (by omega)]
   exact (rat_div (by omega) (by omega)).1
  obtain ⟨_,hq1,hq2⟩:=rat_div (x:=a+c) (y:=b+d) (by omega) (by omega)
  have w3:wi (Int.tdiv (a+c) (b+d))=Int.tdiv (a+c) (b+d):=wiid (by omega) (by omega)
  have hw:within (Int.tdiv (a+c) (b+d))=true:=by simp [within];omega
  rw [hv] at h330
  simp only [P308,S308,br_dec,c1,c2,c3,c4,c5,c6,c7,c8,if_false,decide_false,inlO_s,jn_l,br_false,br_true]
  simp only [ratO,ratD,sumD,ratM,sumM,ratE,if_true,Bool.false_eq_true,if_false,eq_self_iff_true] at h330 h331
  rw [h330,bno_s,h331,bno_s]
  simp only [if_true,nil_isNil,Bool.not_true,br_false,inlO_s,jn_l,w1,w2,hbd,not_false_eq_true,decide_true,ck_true' rfl,w3,P8_eq,bno_s,cellOf,hw]
  simp
 | false =>
  obtain ⟨hq,hq1,hq2⟩:=rat_div (x:=a) (y:=b) (by omega) (by omega)
  obtain ⟨hr,hr1,hr2⟩:=rat_div (x:=c) (y:=d) (by omega) (by omega)
  have hv:sol (ratO false) (ratE a b c d) [0,0]=⟨1,Int.tdiv a b+Int.tdiv c d⟩:=by
   rw [show sol (ratO false) (ratE a b c d) [0,0]=_ from rat_sum false 0 (by omega) (rat_by false 0 (by omega) 0 (by omega))]
   rw [show sol (ratO false) (ratE a b c d) [((0:Nat):Int),1]=_ from rat_quo false 1 (by omega) (rat_by false 0 (by omega) 1 (by omega))]
   rw [show sol (ratO false) (ratE a b c d) [((0:Nat):Int),2]=_ from rat_quo false 2 (by omega) (rat_by false 0 (by omega) 2 (by omega))]
   rw [show sol (ratO false) (ratE a b c d) [1,((1:Nat):Int)]=_ from l11,show sol (ratO false) (ratE a b c d) [1,((2:Nat):Int)]=_ from l12,show sol (ratO false) (ratE a b c d) [2,((1:Nat):Int)]=_ from l21,show sol (ratO false) (ratE a b c d) [2,((2:Nat):Int)]=_ from l22,hq,hr]
   exact rat_add (by omega) (by omega)
  have w3:wi (Int.tdiv a b)=Int.tdiv a b:=wiid (by omega) (by omega)
  have w4:wi (Int.tdiv c d)=Int.tdiv c d:=wiid (by omega) (by omega)
  have w5:wi (Int.tdiv a b+Int.tdiv c d)=Int.tdiv a b+Int.tdiv c d:=wiid (by omega) (by omega)
  have hw:within (Int.tdiv a b+Int.tdiv c d)=true:=by simp [within];omega
  rw [hv] at h330
  simp only [P308,S308,br_dec,c1,c2,c3,c4,c5,c6,c7,c8,if_false,decide_false,inlO_s,jn_l,br_false,br_true]
  simp only [ratO,ratD,sumD,ratM,sumM,ratE,if_true,Bool.false_eq_true,if_false,eq_self_iff_true] at h330 h331
  rw [h330,bno_s,h331,bno_s]
  simp only [Bool.false_eq_true,if_false,if_true,nil_isNil,Bool.not_true,br_false,inlO_s,jn_l,hb0,hd0,not_false_eq_true,decide_true,ck_true' rfl,w3,w4,w5,P8_eq,bno_s,cellOf,hw]
  simp
end
theorem p308 (a b c d:Int) (s:Bool):P308 a b c d s=some true:=by
 by_cases c1:a < 0
 ·simp [P308,S308,c1]
 by_cases c2:1000 < a
 ·simp [P308,S308,c1,c2]
 by_cases c3:b < 1
 ·simp [P308,S308,c1,c2,c3]
 by_cases c4:1000 < b
 ·simp [P308,S308,c1,c2,c3,c4]
 by_cases c5:c < 0
 ·simp [P308,S308,c1,c2,c3,c4,c5]
 by_cases c6:1000 < c
 ·simp [P308,S308,c1,c2,c3,c4,c5,c6]
 by_cases c7:d < 1
 ·simp [P308,S308,c1,c2,c3,c4,c5,c6,c7]
 by_cases c8:1000 < d
 ·simp [P308,S308,c1,c2,c3,c4,c5,c6,c7,c8]
 exact rat_true (by omega) (by omega) (by omega) (by omega) s
end Ab
