/-
  Plain law: in a cube without formulas what is told at a place is what all parts come to, whichever dim tells it.
-/
import Derived.Test.YtchidgkpkhloeaaGreatDoorW310
import Derived.Test.YtchidgkpkhloeaaGreatDoorQSr
import Derived.Test.YtchidgkpkhloeaaGreatDoorQSj
open List (mem_map)
set_option linter.unusedVariables false
set_option linter.unusedSimpArgs false
namespace Ab
open Go
def twoM:List Member:=[⟨⟨#[98]⟩, -1,0,⟨#[99,42,50]⟩⟩,⟨⟨#[99]⟩, -1,0,⟨#[]⟩⟩]
def zbK:Dim:=⟨⟨#[97]⟩,0,twoM⟩
def zfq:List Dim:=[zbK]
def twoE:List Entry:=[⟨[1],7⟩]
def twoF:Fx:=.bin 5 (.ref ⟨#[99]⟩) (.num 2)
theorem zb5:twoF.text=⟨#[99,42,50]⟩:=by decide+kernel
theorem zfs:twoF.Fine:=⟨by omega,by omega,by show zI _=false;decide+kernel,by omega,by omega⟩
theorem twoF_sz:twoF.sz<=30:=by decide
theorem zfr:twoF.text.size<=100:=by rw[zb5];decide
theorem two_rd:(rdT ⟨#[99,42,50]⟩).1=twoF.po 0∧(rdT ⟨#[99,42,50]⟩).2.2=0:=by
 have:=zhS zfs twoF_sz zfr
 rwa [zb5] at this
theorem setI_1:setI [1]=[1]:=zag (zaZ _).1 (by simp) (zaZ [1]).2
theorem two_out:(jl zfq).2.2=0:=by decide+kernel
theorem two_dim:(z6 zbK).2=0:=by decide+kernel
theorem two_cnt:zhn zbK (1:Nat)=[]:=by decide+kernel
theorem zhK:jO zbK 0=[1]∧jO zbK 1=[]:=by
 refine ⟨?_, ?_⟩
 ·have h:zgS zbK 0=[1]:=by
   show (if (⟨#[99,42,50]⟩:ByteArray)=⟨#[]⟩ then zhn zbK (0:Nat) else (zdk (rdT ⟨#[99,42,50]⟩).1).map (qo zbK.members))=_
   rw[if_neg (by decide),two_rd.1];show (zdk (twoF.po 0)).map (qo twoM)=_
   decide+kernel
  unfold jO;rw[h,setI_1]
 ·have h:zgS zbK 1=zhn zbK (1:Nat):=by
   show (if (⟨#[]⟩:ByteArray)=⟨#[]⟩ then zhn zbK (1:Nat) else (zdk (rdT ⟨#[]⟩).1).map (qo zbK.members))=_
   rw[if_pos rfl]
  unfold jO;rw[h,two_cnt,setI_nil']
theorem two_allN:zbH zbK=[[1],[]]:=by
 obtain ⟨h0,h1⟩:=zhK;show [jO zbK 0,jO zbK 1]=_;rw[h0,h1]
theorem two_self:∀ i,i < 2->zfz [[1],[]] i=some false:=by decide+kernel
theorem two_memF:∀ i,i < 2->zdX zbK i=none:=by
 obtain ⟨h0,h1⟩:=zhK;intro i hi;obtain rfl | rfl:i=0∨i=1:=by omega
 ·show (if (⟨#[99,42,50]⟩:ByteArray)≠⟨#[]⟩∧(rdT ⟨#[99,42,50]⟩).2.2≠0 then some (rdT ⟨#[99,42,50]⟩).2.2 else if hasI (jO zbK 0) (-1)=true then some 5 else none)=_
  rw[if_neg (fun h=>h.2 two_rd.2),h0,if_neg (by decide)]
 ·show (if (⟨#[]⟩:ByteArray)≠⟨#[]⟩∧(rdT ⟨#[]⟩).2.2≠0 then some (rdT ⟨#[]⟩).2.2 else if hasI (jO zbK 1) (-1)=true then some 5 else none)=_
  rw[if_neg (fun h=>h.1 rfl),h1,if_neg (by decide)]
theorem two_rules:(qy zbK).2=0:=by
 rw[show qy zbK=zax zbK from if_neg (fun h=>h two_dim)];unfold zax;have hl:zbK.members.length=2:=rfl;rw[hl,show (List.range 2).findSome? (fun i=>(zdX zbK i).map fun e=>((i:Int),e))=none from List.findSome?_eq_none_iff.2 fun i hi=>by rw[two_memF i (List.mem_range.1 hi)];rfl];simp only;rw[show (List.range 2).findSome? (fun i=>(zds zbK i).map fun e=>((i:Int),e))=none from List.findSome?_eq_none_iff.2 fun i hi=>by
  unfold zds;rw[two_allN,two_self i (List.mem_range.1 hi),if_neg (by decide)]
  rfl]
theorem zbU:CubeOk zfq:=⟨zcm.1 two_out,fun d hd=>by rw[List.mem_singleton.1 hd];exact two_rules⟩
theorem zef:∀ i:Nat,i < 2->jb zfq [(i:Int)]=0:=by decide+kernel
theorem two_leaf:zbO zfq [1]=true:=by decide+kernel
theorem two_by:byL zfq [0]=0∧byL zfq [1] = -1:=by decide+kernel
theorem zb4:RightC zfq twoE:=by
 have hm:∀ e∈twoE,e=⟨[1],7⟩:=by simp[twoE]
 refine ⟨zbU,⟨zbU.out,fun e he => ?_,fun e he => ?_,fun e he => ?_,fun i x y h1 h2 => ?_⟩, ?_,fun e he => ?_⟩
 ·rw[hm e he];exact yS.1 (zef 1 (by omega))
 ·rw[hm e he];exact two_leaf
 ·rw[hm e he];decide
 ·match i with
  | 0=>cases h2
  | i+1=>cases h1
 ·show (1:Nat)<=_;omega
 ·rw[hm e he];refine ⟨⟨by show (1:Nat)<=_;omega,fun x hx => ?_⟩,by show I64 7;unfold I64;omega⟩;rw[List.mem_singleton.1 hx];unfold I64;omega
theorem two_sol:sol zfq twoE [0]=⟨1,14⟩:=by
 have h1:sol zfq twoE [1]=⟨1,7⟩:=by
  have hf:Fit zfq [1]:=yS.1 (zef 1 (by omega));rw[zdG zbU hf];unfold wZ;rw[two_by.2,if_pos (by omega)];rfl
 have hf:Fit zfq [0]:=yS.1 (zef 0 (by omega));rw[zdG zbU hf];unfold wZ;rw[two_by.1,if_neg (by omega)];have hp:(⟨#[99]⟩:ByteArray)∈refsOf (rdT ⟨#[99,42,50]⟩).1:=by
  rw[two_rd.1];exact za2.2 ⟨⟨2,0,⟨#[99]⟩,0,0⟩,by simp[twoF,Fx.po],rfl,rfl⟩
 show (if (⟨#[99,42,50]⟩:ByteArray)=⟨#[]⟩ then _ else (evL (rdT ⟨#[99,42,50]⟩).1 (refsOf (rdT ⟨#[99,42,50]⟩).1) ((refsOf (rdT ⟨#[99,42,50]⟩).1).map fun s'=>sol zfq twoE (List.set [0] 0 (qo twoM s'))) (rdT ⟨#[99,42,50]⟩).1.length).getD ((rdT ⟨#[99,42,50]⟩).1.length - 1) ⟨0,0⟩)=_
 rw[if_neg (by decide)];have key:=ev_text zfs twoF_sz zfr (refsOf (rdT ⟨#[99,42,50]⟩).1) ((refsOf (rdT ⟨#[99,42,50]⟩).1).map fun s'=>sol zfq twoE (List.set [0] 0 (qo twoM s')));rw[zb5] at key;rw[key];show zaQ (List.getD _ (nmI _ ⟨#[99]⟩).toNat _) (qS 2)=_;rw[names_get _ hp];have w1:qo twoM ⟨#[99]⟩=1:=by decide+kernel
 simp only[w1];show zaQ (sol zfq twoE [1]) (qS 2)=_;rw[h1]
 decide+kernel
def zbt (m:Member):Member:=⟨m.name,m.parent,m.sign,⟨#[]⟩⟩
def stripD (sv:Int) (d:Dim):Dim:=⟨d.name,sv,d.members.map zbt⟩
def zcd (o:List Dim) (sv:List Int) (i:Nat):Dim:=stripD ((sv[i]?).getD (o.getD i default).solve) (o.getD i default)
def w9 (o:List Dim) (sv:List Int) (n:Nat):List Dim:=(List.range n).map (zcd o sv)
theorem zgF (o:List Dim) (sv:List Int) (n:Nat):noForm (w9 o sv n):=by
 intro d hd m hm;obtain ⟨i,_,rfl⟩:=mem_map.1 hd;obtain ⟨x,_,rfl⟩:=mem_map.1 hm;rfl
theorem zcc {o:List Dim} {i:Nat} {d:Dim} (hd:o[i]? = some d) (x:List Dim) (nm:ByteArray) (sv:Int) (hl:d.members.length<=roomA) :
  lpO (zdf o ((i:Int),x)) ((0:Int),(nm,sv,[]))=some (.inl ((d.members.length:Int),(nm,sv,d.members.map zbt))):=by
 generalize hL:d.members.map zbt=L;have hLl:L.length=d.members.length:=by rw[← hL];simp
 have h63:d.members.length<=3000000000000:=hl;have hs:=qi (B:=zdf o ((i:Int),x)) (fun k=>((k:Int),(nm,sv,L.take k))) d.members.length (fun k hk=>by
  have hx:=List.getElem?_eq_getElem hk;have e4:wi ((k:Int)+1)=((k+1:Nat):Int):=by rw[qX (by omega) (by omega)];omega
  have hlj:L[k]? = some (zbt d.members[k]):=by rw[← hL,List.getElem?_map,hx];rfl
  have hck:(L.take k).length+[zbt d.members[k]].length<=roomA:=by simp only[List.length_take,List.length_singleton];omega
  simp only[zdf,zf,hd,zo];rw[zF,if_pos (by omega)];simp only[zf,hx,zo];rw[show (Member.mk (d.members[k]).name (d.members[k]).parent (d.members[k]).sign (⟨#[]⟩:ByteArray))=zbt d.members[k] from rfl,zE hck,e4,zei hlj]
  rfl)
 rw[show ((0:Int),(nm,sv,([]:List Member)))=(((0:Nat):Int),(nm,sv,L.take 0)) from rfl,hs];refine qp ?_;simp only[zdf,zf,hd,zo];rw[zF,if_neg (by omega),← hLl,List.take_length];rfl
theorem ziP {o:List Dim} (sv:List Int) (hl:∀ d∈o,d.members.length<=roomA):lpO (zde o sv) ((0:Int),([]:List Dim))=some (.inl (((min o.length 10:Nat):Int),w9 o sv (min o.length 10))):=by
 have hs:=qi (B:=zde o sv) (fun i=>((i:Int),w9 o sv i)) (min o.length 10) (fun i hi=>by
  have e4:wi ((i:Int)+1)=((i+1:Nat):Int):=by rw[qX (by omega) (by omega)];omega
  have hio:i < o.length:=by omega
  have hd:=List.getElem?_eq_getElem hio;have hdl:=hl _ (List.getElem_mem hio);have hgd:o.getD i default=o[i]:=by rw[List.getD_eq_getElem?_getD,hd];rfl
  have hck:(w9 o sv i).length+[zcd o sv i].length<=roomA:=by unfold w9 roomA;simp;omega
  have hsucc:w9 o sv i++[zcd o sv i]=w9 o sv (i+1):=by unfold w9;rw[List.range_succ,List.map_append];rfl
  simp only[zde];rw[decide_eq_true (show (i:Int) < (o.length:Int) by omega),zq,decide_eq_true (show (i:Int) < 10 by omega)];simp only[zM,jx,zq,zf,hd,zo,zF,jD];by_cases c:(i:Int) < (sv.length:Int)
  ·have hsv:=List.getElem?_eq_getElem (show i < sv.length by omega);rw[if_pos c];simp only[zf,hsv,zo,zM,jx,zcc hd _ _ _ hdl];rw[show (Dim.mk (o[i]).name sv[i] ((o[i]).members.map zbt))=zcd o sv i from by unfold zcd;rw[hgd,hsv];rfl,zE hck,hsucc,e4];rfl
  ·have hsv:sv[i]? = none:=List.getElem?_eq_none (by omega);rw[if_neg c];simp only[zM,jx,zcc hd _ _ _ hdl];rw[show (Dim.mk (o[i]).name (o[i]).solve ((o[i]).members.map zbt))=zcd o sv i from by unfold zcd;rw[hgd,hsv];rfl,zE hck,hsucc,e4]
   rfl)
 rw[show ((0:Int),([]:List Dim))=(((0:Nat):Int),w9 o sv 0) from rfl,hs];refine qp ?_;simp only[zde];by_cases h:o.length < 10
 ·rw[decide_eq_false (show ¬ ((min o.length 10:Nat):Int) < (o.length:Int) by omega),zg];simp only[zM,jx,zg,dnO_s]
 ·rw[zF];split
  ·rw[decide_eq_false (show ¬ ((min o.length 10:Nat):Int) < 10 by omega)];simp only[zM,jx,zg,dnO_s]
  ·simp only[zM,jx,zg,dnO_s]
theorem p310 (o:List Dim) (hm:∀ d∈o,d.members.length<=roomA) (l:List Entry) (hl:Lst Entry.gd l) (p:List Int) (hp:p.length<=9223372036854775807) (sv:List Int):P310 o l p sv=some true:=by
 have h1:P330 zfq twoE [0]=some (⟨1,14⟩,.nil):=by
  have hf:jb zfq [0]=0:=zef 0 (by omega);rw[P330_eq zb4.len (by show (1:Nat)<=_;omega),if_pos ((zhj zb4.len).2 zb4),if_pos hf,two_sol]
 simp only[zfq,zbK,twoM,twoE] at h1;simp only[P310,S310];rw[h1];simp only[zo,ws,Bool.not_true,zg,not_true,decide_false,zM,jx,jD,ziP sv hm];generalize hX:w9 o sv (min o.length 10)=X;have hn:noForm X:=by rw[← hX];exact zgF _ _ _
 rw[P330_eq hl hp,P110_eq hl hp];by_cases hc:zaP X l=0
 ·have ok:=(zhj hl).1 hc;rw[if_pos hc,if_pos (zeQ.2 ok.ents)];by_cases hf:jb X p=0
  ·rw[if_pos hf,if_pos hf];simp[sol_rollV ok hn (yS.1 hf)]
  ·rw[if_neg hf];simp[hf,zN]
 ·rw[if_neg hc];simp[hc,zN]
end Ab
