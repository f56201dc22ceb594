import Derived.Test.YtchidgkpkhloeaaGreatDoorC9
open List (exists_of_findSome?_eq_some getElem?_eq_getElem getElem?_map getElem?_range length_filter_le length_map length_range mem_range)
open Nat (le_trans)
open Option (map_eq_some_iff map_none map_some toList_some)
set_option linter.unusedVariables false
set_option linter.unusedSimpArgs false
noncomputable section
namespace Ab
open Go
section
theorem zil (s:ByteArray):∃ (l:List Node) (n e:Int),P247 s=some (l,n,e)∧P248 s=some (l,n,zE e)∧l.length<=30∧(e=0->FormOk l)∧0<=e:=by
 unfold P247 P248;by_cases hs:100 < s.size
 ·rw[if_pos hs,if_pos hs];exact ⟨[],0,4,rfl,rfl,by simp,fun e=>by omega,by omega⟩
 ·rw[if_neg hs,if_neg hs];obtain ⟨r,e⟩:=zjq (s:=s) (by omega);rw[e,show rd s 404 (.row true) 0 []=some r from e];cases r with
  | bad b=>exact ⟨[],b,2,rfl,rfl,by simp,fun e=>by omega,by omega⟩
  | ok i b l =>
   simp only;by_cases hb:b < s.size
   ·rw[if_pos hb,if_pos hb];exact ⟨[],b,2,rfl,rfl,by simp,fun e=>by omega,by omega⟩
   ·rw[if_neg hb,if_neg hb,P240_eq,P241_eq];simp only[zl];by_cases h0:zd5 l=0
    ·have ok:=form_ok.1 h0;refine ⟨l,0,0, ?_, ?_,ok.most,fun _=>ok,Int.le_refl _⟩
     ·rw[h0];rfl
     ·rw[h0];rfl
    ·have hp:0<=zd5 l:=by
      unfold zd5;split
      ·omega
      split
      ·omega
      split
      ·rename_i e he;obtain ⟨i,_,hi⟩:=exists_of_findSome?_eq_some he;unfold jF at hi;split at hi
       ·split at hi
        ·cases hi
        ·cases hi;unfold qW
         repeat' split
         all_goals omega
       ·cases hi
      ·split
       ·rename_i e he;obtain ⟨i,_,hi⟩:=exists_of_findSome?_eq_some he;unfold j8 at hi;split at hi
        ·cases hi
        ·cases hi;omega
       ·omega
     refine ⟨[],0,zd5 l, ?_, ?_,by simp,fun e=>absurd e h0,hp⟩
     ·rw[if_neg h0]
     ·rw[qe,if_neg (by simpa using h0)]
def rdT (s:ByteArray):List Node×Int×Int:=(P247 s).getD ([],0,0)
theorem P247_eq (s:ByteArray):P247 s=some (rdT s):=by obtain ⟨l,n,e,h1,_⟩:=zil s;unfold rdT;rw[h1];rfl
theorem P248_eq (s:ByteArray):P248 s=some ((rdT s).1,(rdT s).2.1,zE (rdT s).2.2):=by obtain ⟨l,n,e,h1,h2,_⟩:=zil s;unfold rdT;rw[h1,h2];rfl
theorem rdT_ok {s:ByteArray} (h:(rdT s).2.2=0):FormOk (rdT s).1:=by obtain ⟨l,n,e,h1,_,_,h4,_⟩:=zil s;unfold rdT at h ⊢;rw[h1] at h ⊢;exact h4 h
theorem zhj (s:ByteArray):(rdT s).1.length<=30:=by obtain ⟨l,n,e,h1,_,h3,_⟩:=zil s;unfold rdT;rw[h1];exact h3
def zdV (l:List Int) (n:Int):Bool:=l.any fun y=>decide (y=n)
theorem zbj {l:List Int} {n:Int}:zdV l n=true↔n∈l:=by simp[zdV]
theorem P362_eq (l:List Int) (n:Int) (h:l.length<=9223372036854775807):P362 l n=some (idxOf (fun y=>decide (y=n)) l):=by
 refine yU _ l (fun i y hy => ?_) (by simp[zhV]);have hi:=(List.getElem?_eq_some_iff.1 hy).1;have e:(((i:Nat):Int) < ((l.length:Nat):Int)):=by omega
 simp only[zhV,zd,hy,zl,e,decide_true,zn];rw[qV (by omega) (by omega)];by_cases c:y=n
 ·simp[c]
 ·have c':¬ n=y:=fun e=>c e.symm;simp[c,c']
theorem P357_eq (l:List Int) (n:Int) (h:l.length<=9223372036854775807):P357 l n=some (zdV l n):=by simp only[P357,S357,P362_eq l n h,zl];congr 1;exact zdC _ _
theorem compI_len (l:List Int):(zgP l).length<=l.length:=by unfold zgP Lib.compact Lib.compactUpTo;rw[length_map];exact le_trans (length_filter_le _ _) (by simp)
theorem setI_len (l:List Int):(zdZ l).length<=l.length:=by have:=compI_len (jA l);rw[qq] at this;exact this
theorem zf3 {l:List Int} (h:l.length<=1000000):(bno (P213 l) fun y13=>ck (decide (List.length y13=List.length l)) <| bno (P302 y13) fun y14=>some y14)=some (zdZ l):=by unfold P213 P302;rw[zp (by unfold zA;omega)];simp only[zl];rw[zp (qq l),zp (by rw[qq];unfold zA;omega)];rfl
theorem ziP {α:Type} {b:Bool} (h:b=true) (x:Option α):ck b x=x:=by rw[h];rfl
section
variable {d:Dim}
def cntP2 (d:Dim) (i:Int):List Int:=(partsOf d.members i).filter fun k=>decide (¬ sgn d.members k=0)
theorem zcz {i x:Int} (h:x∈partsOf d.members i):∃ k:Nat,x=k∧k < d.members.length:=by obtain ⟨k,e,hk,_⟩:=mem_idxs.1 h;exact ⟨k,e,hk⟩
theorem zay {l:List Node} {i:Nat} {x:Node} (h:l[i]? = some x):zbt (l.take (i+1))=zbt (l.take i)++(if x.op=2 then [x.name] else []):=by rw[List.take_add_one,h,refL_app];congr 1;unfold zbt;by_cases c:x.op=2<;>simp[c]
theorem zel (hl:d.members.length<=1000) {l:List Node} (h30:l.length<=1000) (a2:Option (List Node)) (ha:Option.getD a2 []=l):lpO (zdJ P37 d a2) (([]:List Int),(0:Int))=some (.inl ((zbt l).map (ql d.members),(l.length:Int))):=by
 have hs:=zR (B:=zdJ P37 d a2) (fun i=>((zbt (l.take i)).map (ql d.members),(i:Int))) l.length (fun i hi=>by
  have hx:=getElem?_eq_getElem hi;simp only[zdJ,ha];rw[zj,if_pos (by omega)];simp only[zd,hx,zl];have e4:wi ((i:Int)+1)=((i+1:Nat):Int):=by rw[qV (by omega) (by omega)];omega
  rw[zay hx,zj];have hb:(zbt (l.take i)).length<=1000:=le_trans (zcy _) (by rw[List.length_take];omega);by_cases c:l[i].op=2
  ·rw[if_pos c,P37_eq _ _ (by omega),if_pos c];simp only[zl];rw[zp (by rw[length_map];simp only[List.length_singleton];unfold zA;omega)];simp only[zD,qG,e4,List.map_append,List.map_cons,List.map_nil];rfl
  ·rw[if_neg c,if_neg c];simp only[zD,qG,e4,List.append_nil]
   rfl)
 rw[show (([]:List Int),(0:Int))=((zbt (l.take 0)).map (ql d.members),((0:Nat):Int)) by rw[List.take_zero];rfl,hs,List.take_length];refine zS ?_;simp only[zdJ,ha];rw[zj,if_neg (by omega)];rfl
theorem P356_some (hl:d.members.length<=1000) {l:List Node} (hne:l≠[]) (h30:l.length<=1000) (i:Int):P356 d i (some l)=some (zdZ ((zbt l).map (ql d.members))):=by simp only[P356,S356,qx,zel hl h30 (some l) rfl,qG];rw[ziP (by cases l with | nil=>exact absurd rfl hne | cons=>rfl)];simp only[Option.isNone_some,zk,zD,qG];exact zf3 (by rw[length_map];exact le_trans (zcy _) (by omega))
theorem zjs (hl:d.members.length<=1000) (ps:List Int) (hp:∀ x∈ps,∃ k:Nat,x=k∧k < d.members.length) (hn:ps.length<=1000):lpO (zdI d ps) (([]:List Int),(0:Int))=some (.inl (ps.filter (fun k=>decide (¬ sgn d.members k=0)),(ps.length:Int))):=by
 have hs:=zR (B:=zdI d ps) (fun i=>((ps.take i).filter (fun k=>decide (¬ sgn d.members k=0)),(i:Int))) ps.length (fun i hi=>by
  have hx:=getElem?_eq_getElem hi;obtain ⟨k,hk,hkl⟩:=hp _ (List.getElem_mem hi);have hm:=getElem?_eq_getElem hkl;simp only[zdI];rw[zj,if_pos (by omega)];have e4:wi ((i:Int)+1)=((i+1:Nat):Int):=by rw[qV (by omega) (by omega)];omega
  have hb:((ps.take i).filter (fun k=>decide (¬ sgn d.members k=0))).length<=1000:=le_trans (length_filter_le _ _) (by rw[List.length_take];omega);have hsg:sgn d.members ps[i]=(d.members[k]).sign:=by unfold sgn;rw[hk,Int.toNat_natCast,hm]
  simp only[zd,hx,zl];rw[show zm d.members ps[i]=some d.members[k] by rw[hk,zd,hm]];simp only[zl];rw[List.take_add_one,hx,List.filter_append,zj];by_cases c:(d.members[k]).sign=0
  ·rw[if_neg (by simpa using c)];simp only[zD,qG,e4,toList_some];rw[List.filter_cons_of_neg (by rw[hsg];simpa using c)];simp
  ·rw[if_pos c,zp (by simp only[List.length_singleton];unfold zA;omega)];simp only[zD,qG,e4,toList_some];rw[List.filter_cons_of_pos (by rw[hsg];simpa using c)]
   rfl)
 rw[show (([]:List Int),(0:Int))=((ps.take 0).filter (fun k=>decide (¬ sgn d.members k=0)),((0:Nat):Int)) by rw[List.take_zero];rfl,hs,List.take_length];refine zS ?_;simp only[zdI];rw[zj,if_neg (by omega)];rfl
theorem P356_none (hl:d.members.length<=1000) (i:Int):P356 d i none=some (zdZ (cntP2 d i)):=by simp only[P356,S356,qx,zel hl (l:=[]) (by simp) none rfl,qG];rw[ziP rfl];have hpl:(partsOf d.members i).length<=1000:=le_trans (zcF _ _) hl;simp only[Option.isNone_none,zn,P47_eq hl,zl];rw[show (zbt []).map (ql d.members)=([]:List Int) from rfl,zjs hl _ (fun x hx=>zcz hx) hpl];simp only[qG,zD];exact zf3 (le_trans (length_filter_le _ _) (by omega))
def rawN (d:Dim) (i:Nat):List Int:=match d.members[i]? with
 | some m=>if m.formula=⟨#[]⟩ then cntP2 d i else (zbt (rdT m.formula).1).map (ql d.members)
 | none=>[]
def qC (d:Dim) (i:Nat):List Int:=zdZ (rawN d i)
def zcB (d:Dim) (i:Nat):Option Int:=match d.members[i]? with
 | some m=>if m.formula≠⟨#[]⟩∧(rdT m.formula).2.2≠0 then some (rdT m.formula).2.2 else if zdV (qC d i) (-1)=true then some 5 else none
 | none=>none
def jo (d:Dim):List (List Int):=(List.range d.members.length).map (qC d)
def zcp (d:Dim) (i:Nat):Option Int:=if zco (jo d) i=some true then some 8 else none
def zcT (d:Dim):Int×Int :=
  match (List.range d.members.length).findSome? fun i=>(zcB d i).map fun e=>((i:Int),e) with
  | some r=>r
  | none=>match (List.range d.members.length).findSome? fun i=>(zcp d i).map fun e=>((i:Int),e) with
   | some r=>r
   | none=>(-1,0)
def qY (d:Dim):Int×Int:=if ¬ (zJ d).2=0 then zJ d else zcT d
theorem P355_eq {i:Nat} {m:Member} (h:d.members[i]? = some m):P355 d (i:Int)=some (if m.formula=⟨#[]⟩ then (none,.nil) else (some (rdT m.formula).1,zE (rdT m.formula).2.2)):=by
 simp only[P355,S355,zd,h,zl,P248_eq];rw[zj]
 split<;>rfl
theorem rawN_len (hl:d.members.length<=12) (i:Nat):(rawN d i).length<=30:=by
 unfold rawN;split
 ·split
  ·exact le_trans (length_filter_le _ _) (le_trans (zcF _ _) (by omega))
  ·rw[length_map];exact le_trans (zcy _) (zhj _)
 ·simp
theorem yR (hl:d.members.length<=12) (i:Nat):(qC d i).length<=30:=le_trans (setI_len _) (rawN_len hl i)
theorem P356_need (hl:d.members.length<=12) {i:Nat} {m:Member} (h:d.members[i]? = some m) (hf:¬ (m.formula≠⟨#[]⟩∧(rdT m.formula).2.2≠0)) :
  P356 d (i:Int) (if m.formula=⟨#[]⟩ then none else some (rdT m.formula).1)=some (qC d i):=by
 unfold qC rawN;rw[h];simp only;by_cases c:m.formula=⟨#[]⟩
 ·rw[if_pos c,if_pos c,P356_none (by omega)]
 ·have h0:(rdT m.formula).2.2=0:=Classical.byContradiction fun e=>hf ⟨c,e⟩;have ok:=rdT_ok h0;have hne:(rdT m.formula).1≠[]:=fun e=>by have:=ok.pos;rw[e] at this;simp at this
  rw[if_neg c,if_neg c,P356_some (by omega) hne (le_trans (zhj _) (by omega))]
theorem memF_none {i:Nat} {m:Member} (h:d.members[i]? = some m) (hn:zcB d i=none):¬ (m.formula≠⟨#[]⟩∧(rdT m.formula).2.2≠0)∧zdV (qC d i) (-1)=false:=by
 unfold zcB at hn;rw[h] at hn;simp only at hn;split at hn
 ·cases hn
 ·rename_i c;split at hn
  ·cases hn
  ·rename_i c2;exact ⟨c,Bool.eq_false_iff.2 c2⟩
theorem zb6 (l:List Member) (s:ByteArray) : -1<=ql l s∧ql l s < l.length:=by
 unfold ql idxOf;split
 ·rename_i i hi;have:=(List.findIdx?_eq_some_iff_getElem.1 hi).1;omega
 ·omega
theorem zfr (hn:∀ i,i < d.members.length->zcB d i=none):Rng (jo d):=by
 intro i k hk;unfold jo at hk ⊢;rw[length_map,length_range];by_cases hi:i < d.members.length
 ·have hx:=getElem?_eq_getElem hi;simp only[List.getD_eq_getElem?_getD,getElem?_map,getElem?_range hi,map_some,Option.getD_some] at hk;obtain ⟨h1,h2⟩:=memF_none hx (hn i hi);have h3:k ≠ -1:=fun e=>(by rw[e] at hk;rw[zbj.2 hk] at h2;cases h2);have hk2:k∈rawN d i:=(jB _).2 k |>.1 hk;unfold rawN at hk2;rw[hx] at hk2;simp only at hk2;split at hk2
  ·obtain ⟨k',rfl,hk'⟩:=zcz (List.mem_filter.1 hk2).1;omega
  ·obtain ⟨s,_,rfl⟩:=List.mem_map.1 hk2;have:=zb6 d.members s;omega
 ·simp only[List.getD_eq_getElem?_getD,getElem?_map,List.getElem?_eq_none (show (List.range d.members.length).length<=i by rw[length_range];omega),map_none,Option.getD_none] at hk;cases hk
theorem zfs {i:Nat} (hi:i < d.members.length):(jo d)[i]? = some (qC d i):=by unfold jo;rw[getElem?_map,getElem?_range hi];rfl
theorem zho {i:Nat} {e:Int} (h:zcB d i=some e):e≠0:=by
 unfold zcB at h;split at h
 ·split at h
  ·rename_i c;cases h;exact c.2
  ·split at h
   ·cases h;decide
   ·cases h
 ·cases h
theorem P303_eq (hl:d.members.length<=12) (hr:Rng (jo d)) {i:Nat} (hi:i < d.members.length):P303 (jo d) (i:Int)=zco (jo d) i:=by
 unfold P303;rw[if_pos,Int.toNat_natCast];refine ⟨hr,by omega,by unfold jo;rw[length_map,length_range];omega,by unfold jo;rw[length_map,length_range];omega,fun k => ?_⟩;unfold jo;simp only[List.getD_eq_getElem?_getD,getElem?_map];by_cases hk:k < d.members.length
 ·rw[getElem?_range hk];exact le_trans (yR hl k) (by omega)
 ·rw[List.getElem?_eq_none (by rw[length_range];omega)];simp
theorem P340_eq (d:Dim):P340 d=some (if (qY d).2=0 then jo d else [],(qY d).1,zE (qY d).2):=by
 simp only[P340,S340,P15_eq,zl,qe];by_cases h0:(zJ d).2=0
 ·have ok:=zgM.1 h0;obtain ⟨hl0,hl⟩:=ok.len;rw[show qY d=zcT d from if_neg (fun h=>h h0)];unfold zcT;rw[decide_eq_true h0,Bool.not_true,zk];have L1:=qN (B:=zfz P355 P356 P357 d) (fun i=>((List.range i).map (qC d),(i:Int))) d.members.length (fun i=>((zcB d i).map fun e=>((i:Int),e)).map fun r=>(([]:List (List Int)),r.1,zE r.2)) (d:=(jo d,(d.members.length:Int))) (fun i hi hg=>by
   have hx:=getElem?_eq_getElem hi;simp only[zfz];rw[zj,if_pos (by omega),P355_eq hx];simp only[zl];have e4:wi ((i:Int)+1)=((i+1:Nat):Int):=by rw[qV (by omega) (by omega)];omega
   by_cases hf:(d.members[i]).formula≠⟨#[]⟩∧(rdT (d.members[i]).formula).2.2≠0
   ·have hm:zcB d i=some (rdT (d.members[i]).formula).2.2:=by unfold zcB;rw[hx];simp only;rw[if_pos hf]
    rw[hm,if_neg hf.1];simp only[qe,decide_eq_false hf.2,Bool.not_false,zn,map_some];rfl
   ·have hn2:=P356_need hl hx hf;have hsame:∀ (k:Option (List Node)×Err->Option (LR (List (List Int)×Int) (List (List Int)×Int×Err))),k (if (d.members[i]).formula=⟨#[]⟩ then (none,.nil) else (some (rdT (d.members[i]).formula).1,zE (rdT (d.members[i]).formula).2.2))=k (if (d.members[i]).formula=⟨#[]⟩ then none else some (rdT (d.members[i]).formula).1,.nil):=by
     intro k;by_cases c:(d.members[i]).formula=⟨#[]⟩
     ·rw[if_pos c,if_pos c]
     ·have h1:(rdT (d.members[i]).formula).2.2=0:=Classical.byContradiction fun e=>hf ⟨c,e⟩;rw[if_neg c,if_neg c,h1];rfl
    have:=hsame (fun y3=>br (!(Err.isNil y3.2)) (jf (some (([]:List (List Int)),(i:Int),y3.2))) (bno (P356 d (i:Int) y3.1) fun y4=>bno (P357 y4 (-1:Int)) fun y5=>br y5 (jf (some (([]:List (List Int)),(i:Int),Err.no (5:Int)))) (ck (decide (List.length ((List.range i).map (qC d))+List.length ([y4]:List (List Int))<=zA)) <| nxO (some ((List.range i).map (qC d)++([y4]:List (List Int)),wi ((i:Int)+(1:Int)))))));simp only at this;rw[this];have hnl:=yR hl i;simp only[yQ,Bool.not_true,zk,hn2,zl,P357_eq _ _ (show (qC d i).length<=9223372036854775807 by omega)];have hm:zcB d i=if zdV (qC d i) (-1)=true then some 5 else none:=by unfold zcB;rw[hx];simp only;rw[if_neg hf]
    rw[hm];by_cases c:zdV (qC d i) (-1)=true
    ·rw[c];rfl
    ·rw[Bool.not_eq_true] at c;rw[c];simp only[zk,Bool.false_eq_true,if_false,map_none];rw[zp (by rw[length_map,length_range];simp only[List.length_singleton];unfold zA;omega),e4,List.range_succ,List.map_append]
     rfl) (fun _=>by
   simp only[zfz];rw[zj,if_neg (by omega)]
   rfl)
  have e0:(([]:List (List Int)),(0:Int))=((List.range 0).map (qC d),((0:Nat):Int)):=rfl;rw[qx,e0,L1,z8];cases hs:(List.range d.members.length).findSome? (fun i=>(zcB d i).map fun e=>((i:Int),e)) with
  | some r =>have hr:r.2≠0:=(by obtain ⟨i,_,hi⟩:=exists_of_findSome?_eq_some hs;obtain ⟨e,he,rfl⟩:=map_eq_some_iff.1 hi;exact zho he);simp only[map_some,jn_r,if_neg hr]
  | none =>
   have hnone:∀ i,i < d.members.length->zcB d i=none:=fun i hi=>(by have:=List.findSome?_eq_none_iff.1 hs i (mem_range.2 hi);simpa using this);have hrng:=zfr hnone;simp only[map_none,qG];have L2:=qN (B:=zfy P303 d (jo d,(d.members.length:Int))) (fun i=>(i:Int)) d.members.length (fun i=>((zcp d i).map fun e=>((i:Int),e)).map fun r=>(([]:List (List Int)),r.1,zE r.2)) (d:=((d.members.length:Nat):Int)) (fun i hi hg=>by
    simp only[zfy];have e4:wi ((i:Int)+1)=((i+1:Nat):Int):=by rw[qV (by omega) (by omega)];omega
    obtain ⟨b,hb⟩:=zbA hrng i;rw[zj,if_pos (by omega),P303_eq hl hrng hi,hb];simp only[zl];unfold zcp;rw[hb];cases b with
    | true=>rfl
    | false =>
     simp only[zk,e4,Option.some.injEq,Bool.false_eq_true,if_false,map_none]
     rfl) (fun _=>by
    simp only[zfy];rw[zj,if_neg (by omega)]
    rfl)
   rw[qx,show (0:Int)=((0:Nat):Int) from rfl,L2,z8];cases hs2:(List.range d.members.length).findSome? (fun i=>(zcp d i).map fun e=>((i:Int),e)) with
   | some r =>
    have hr:r.2≠0:=by
     obtain ⟨i,_,hi⟩:=exists_of_findSome?_eq_some hs2;obtain ⟨e,he,rfl⟩:=map_eq_some_iff.1 hi;unfold zcp at he;split at he
     ·cases he;show (8:Int)≠0;decide
     ·cases he
    simp only[map_some,jn_r];rw[if_neg (show ¬ r.2=((0:Nat):Int) from hr)]
   | none=>rfl
 ·rw[show qY d=zJ d from if_pos h0,decide_eq_false h0,Bool.not_false,zn,if_neg h0]
end
end
section
section
variable {n:List (List Int)} (hr:Rng n) (hn:n.length<=100000) (hw:∀ i,(n.getD i []).length<=100000)
include hr hn hw
end
end
section
theorem zas (d:Dim):(jo d).length=d.members.length:=by unfold jo;rw[length_map,length_range]
theorem zjp {d:Dim} (h:(qY d).2=0):d.members.length<=12∧Rng (jo d)∧Acyc (jo d):=by
 have h0:(zJ d).2=0:=Classical.byContradiction fun h1=>(by rw[show qY d=zJ d from if_pos h1] at h;exact h1 h);have ok:=zgM.1 h0;obtain ⟨hl0,hl⟩:=ok.len;rw[show qY d=zcT d from if_neg (fun h=>h h0)] at h;unfold zcT at h;cases hs:(List.range d.members.length).findSome? (fun i=>(zcB d i).map fun e=>((i:Int),e)) with
 | some r =>rw[hs] at h;obtain ⟨i,_,hi⟩:=exists_of_findSome?_eq_some hs;obtain ⟨e,he,rfl⟩:=map_eq_some_iff.1 hi;exact absurd h (zho he)
 | none =>
  rw[hs] at h;have hnone:∀ i,i < d.members.length->zcB d i=none:=fun i hi=>(by have:=List.findSome?_eq_none_iff.1 hs i (mem_range.2 hi);simpa using this);have hrng:=zfr hnone;refine ⟨hl,hrng,fun i hi => ?_⟩;rw[zas] at hi;obtain ⟨b,hb⟩:=zbA hrng i;cases b with
  | false=>exact zcS hrng hb
  | true =>
   cases hs2:(List.range d.members.length).findSome? (fun i=>(zcp d i).map fun e=>((i:Int),e)) with
   | some r =>
    rw[hs2] at h;obtain ⟨j,_,hj⟩:=exists_of_findSome?_eq_some hs2;obtain ⟨e,he,rfl⟩:=map_eq_some_iff.1 hj;unfold zcp at he;split at he
    ·cases he;have h8:(8:Int)=0:=h;omega
    ·cases he
   | none =>have:=List.findSome?_eq_none_iff.1 hs2 i (mem_range.2 hi);unfold zcp at this;rw[if_pos hb] at this;cases this
theorem allN_w {d:Dim} (hl:d.members.length<=12) (i:Nat):((jo d).getD i []).length<=1000:=by
 unfold jo;simp only[List.getD_eq_getElem?_getD,getElem?_map];by_cases hk:i < d.members.length
 ·rw[getElem?_range hk];exact le_trans (yR hl i) (by omega)
 ·rw[List.getElem?_eq_none (by rw[length_range];omega)];simp
end
end Ab
