import Derived.Test.YtchidgkpkhloeaaGreatDoorC9
open List (exists_of_findSome?_eq_some getElem?_eq_getElem getElem?_map length_filter_le length_map length_range mem_range)
open Nat (le_trans)
open Option (map_eq_some_iff map_none map_some toList_some)
set_option linter.unusedVariables false
set_option linter.unusedSimpArgs false
noncomputable section
namespace Ab
open Go
section
theorem rdT_ex (s:ByteArray):∃ (l:List Node) (n e:Int),P247 s=some (l,n,e)∧P248 s=some (l,n,zm e)∧l.length<=30∧(e=0->FormOk l)∧0<=e:=by
 unfold P247 P248;by_cases hs:100 < s.size
 ·rw[if_pos hs,if_pos hs];exact ⟨[],0,4,rfl,rfl,by simp,fun e=>by omega,by omega⟩
 ·rw[if_neg hs,if_neg hs];obtain ⟨r,e⟩:=zjS (s:=s) (by omega);rw[e,show rd s 404 (.row true) 0 []=some r from e];cases r with
  | bad b=>exact ⟨[],b,2,rfl,rfl,by simp,fun e=>by omega,by omega⟩
  | ok i b l =>
   simp only;by_cases hb:b < s.size
   ·rw[if_pos hb,if_pos hb];exact ⟨[],b,2,rfl,rfl,by simp,fun e=>by omega,by omega⟩
   ·rw[if_neg hb,if_neg hb,P240_eq,P241_eq];simp only[zj];by_cases h0:zd2 l=0
    ·have ok:=form_ok.1 h0;refine ⟨l,0,0, ?_, ?_,ok.most,fun _=>ok,Int.le_refl _⟩
     ·rw[h0];rfl
     ·rw[h0];rfl
    ·have hp:0<=zd2 l:=by
      unfold zd2;split
      ·omega
      split
      ·omega
      split
      ·rename_i e he;obtain ⟨i,_,hi⟩:=exists_of_findSome?_eq_some he;unfold jD at hi;split at hi
       ·split at hi
        ·cases hi
        ·cases hi;unfold qL
         repeat' split
         all_goals omega
       ·cases hi
      ·split
       ·rename_i e he;obtain ⟨i,_,hi⟩:=exists_of_findSome?_eq_some he;unfold jY at hi;split at hi
        ·cases hi
        ·cases hi;omega
       ·omega
     refine ⟨[],0,zd2 l, ?_, ?_,by simp,fun e=>absurd e h0,hp⟩
     ·rw[if_neg h0]
     ·rw[zB,if_neg (by simpa using h0)]
def rdT (s:ByteArray):List Node×Int×Int:=(P247 s).getD ([],0,0)
theorem P248_eq (s:ByteArray):P248 s=some ((rdT s).1,(rdT s).2.1,zm (rdT s).2.2):=by obtain ⟨l,n,e,h1,h2,_⟩:=rdT_ex s;unfold rdT;rw[h1,h2];rfl
theorem rdT_ok {s:ByteArray} (h:(rdT s).2.2=0):FormOk (rdT s).1:=by obtain ⟨l,n,e,h1,_,_,h4,_⟩:=rdT_ex s;unfold rdT at h ⊢;rw[h1] at h ⊢;exact h4 h
theorem rdT_len (s:ByteArray):(rdT s).1.length<=30:=by obtain ⟨l,n,e,h1,_,h3,_⟩:=rdT_ex s;unfold rdT;rw[h1];exact h3
def hasI (l:List Int) (n:Int):Bool:=l.any fun y=>decide (y=n)
theorem ziX {l:List Int} {n:Int}:hasI l n=true↔n∈l:=by simp[hasI]
theorem P362_eq (l:List Int) (n:Int) (h:l.length<=9223372036854775807):P362 l n=some (idxOf (fun y=>decide (y=n)) l):=by
 refine wO _ l (fun i y hy => ?_) (by simp[zim]);have hi:=(List.getElem?_eq_some_iff.1 hy).1;have e:(((i:Nat):Int) < ((l.length:Nat):Int)):=by omega
 simp only[zim,zh,hy,zj,e,decide_true,zl];rw[jv (by omega) (by omega)];by_cases c:y=n
 ·simp[c]
 ·have c':¬ n=y:=fun e=>c e.symm;simp[c,c']
theorem P357_eq (l:List Int) (n:Int) (h:l.length<=9223372036854775807):P357 l n=some (hasI l n):=by simp only[P357,S357,P362_eq l n h,zj];congr 1;exact zdG _ _
theorem compI_len (l:List Int):(zg4 l).length<=l.length:=by unfold zg4 Lib.compact Lib.compactUpTo;rw[length_map];exact le_trans (length_filter_le _ _) (by simp)
theorem setI_len (l:List Int):(setI l).length<=l.length:=by have:=compI_len (yN l);rw[qC] at this;exact this
theorem zgf {l:List Int} (h:l.length<=1000000):(bno (P213 l) fun y13=>ck (decide (List.length y13=List.length l)) <| bno (P302 y13) fun y14=>some y14)=some (setI l):=by unfold P213 P302;rw[zw (by unfold zH;omega)];simp only[zj];rw[zw (qC l),zw (by rw[qC];unfold zH;omega)];rfl
theorem zcG {α:Type} {b:Bool} (h:b=true) (x:Option α):ck b x=x:=by rw[h];rfl
section
variable {d:Dim}
def cntP2 (d:Dim) (i:Int):List Int:=(partsOf d.members i).filter fun k=>decide (¬ sgn d.members k=0)
theorem ze4 {i x:Int} (h:x∈partsOf d.members i):∃ k:Nat,x=k∧k < d.members.length:=by obtain ⟨k,e,hk,_⟩:=ziM.1 h;exact ⟨k,e,hk⟩
theorem zdV {l:List Node} {i:Nat} {x:Node} (h:l[i]? = some x):zeX (l.take (i+1))=zeX (l.take i)++(if x.op=2 then [x.name] else []):=by rw[List.take_add_one,h,refL_app];congr 1;unfold zeX;by_cases c:x.op=2<;>simp[c]
theorem zel (hl:d.members.length<=1000) {l:List Node} (h30:l.length<=1000) (a2:Option (List Node)) (ha:Option.getD a2 []=l):lpO (zdM P37 d a2) (([]:List Int),(0:Int))=some (.inl ((zeX l).map (jw d.members),(l.length:Int))):=by
 have hs:=zU (B:=zdM P37 d a2) (fun i=>((zeX (l.take i)).map (jw d.members),(i:Int))) l.length (fun i hi=>by
  have hx:=getElem?_eq_getElem hi;simp only[zdM,ha];rw[zt,if_pos (by omega)];simp only[zh,hx,zj];have e4:wi ((i:Int)+1)=((i+1:Nat):Int):=by rw[jv (by omega) (by omega)];omega
  rw[zdV hx,zt];have hb:(zeX (l.take i)).length<=1000:=le_trans (zeW _) (by rw[List.length_take];omega);by_cases c:l[i].op=2
  ·rw[if_pos c,P37_eq _ _ (by omega),if_pos c];simp only[zj];rw[zw (by rw[length_map];simp only[List.length_singleton];unfold zH;omega)];simp only[zJ,q8,e4,List.map_append,List.map_cons,List.map_nil];rfl
  ·rw[if_neg c,if_neg c];simp only[zJ,q8,e4,List.append_nil]
   rfl)
 rw[show (([]:List Int),(0:Int))=((zeX (l.take 0)).map (jw d.members),((0:Nat):Int)) by rw[List.take_zero];rfl,hs,List.take_length];refine qw ?_;simp only[zdM,ha];rw[zt,if_neg (by omega)];rfl
theorem P356_some (hl:d.members.length<=1000) {l:List Node} (hne:l≠[]) (h30:l.length<=1000) (i:Int):P356 d i (some l)=some (setI ((zeX l).map (jw d.members))):=by simp only[P356,S356,jh,zel hl h30 (some l) rfl,q8];rw[zcG (by cases l with | nil=>exact absurd rfl hne | cons=>rfl)];simp only[Option.isNone_some,zg,zJ,q8];exact zgf (by rw[length_map];exact le_trans (zeW _) (by omega))
theorem zjU (hl:d.members.length<=1000) (ps:List Int) (hp:∀ x∈ps,∃ k:Nat,x=k∧k < d.members.length) (hn:ps.length<=1000):lpO (zdL d ps) (([]:List Int),(0:Int))=some (.inl (ps.filter (fun k=>decide (¬ sgn d.members k=0)),(ps.length:Int))):=by
 have hs:=zU (B:=zdL d ps) (fun i=>((ps.take i).filter (fun k=>decide (¬ sgn d.members k=0)),(i:Int))) ps.length (fun i hi=>by
  have hx:=getElem?_eq_getElem hi;obtain ⟨k,hk,hkl⟩:=hp _ (List.getElem_mem hi);have hm:=getElem?_eq_getElem hkl;simp only[zdL];rw[zt,if_pos (by omega)];have e4:wi ((i:Int)+1)=((i+1:Nat):Int):=by rw[jv (by omega) (by omega)];omega
  have hb:((ps.take i).filter (fun k=>decide (¬ sgn d.members k=0))).length<=1000:=le_trans (length_filter_le _ _) (by rw[List.length_take];omega);have hsg:sgn d.members ps[i]=(d.members[k]).sign:=by unfold sgn;rw[hk,Int.toNat_natCast,hm]
  simp only[zh,hx,zj];rw[show zC d.members ps[i]=some d.members[k] by rw[hk,zh,hm]];simp only[zj];rw[List.take_add_one,hx,List.filter_append,zt];by_cases c:(d.members[k]).sign=0
  ·rw[if_neg (by simpa using c)];simp only[zJ,q8,e4,toList_some];rw[List.filter_cons_of_neg (by rw[hsg];simpa using c)];simp
  ·rw[if_pos c,zw (by simp only[List.length_singleton];unfold zH;omega)];simp only[zJ,q8,e4,toList_some];rw[List.filter_cons_of_pos (by rw[hsg];simpa using c)]
   rfl)
 rw[show (([]:List Int),(0:Int))=((ps.take 0).filter (fun k=>decide (¬ sgn d.members k=0)),((0:Nat):Int)) by rw[List.take_zero];rfl,hs,List.take_length];refine qw ?_;simp only[zdL];rw[zt,if_neg (by omega)];rfl
theorem P356_none (hl:d.members.length<=1000) (i:Int):P356 d i none=some (setI (cntP2 d i)):=by simp only[P356,S356,jh,zel hl (l:=[]) (by simp) none rfl,q8];rw[zcG rfl];have hpl:(partsOf d.members i).length<=1000:=le_trans (zcE _ _) hl;simp only[Option.isNone_none,zl,P47_eq hl,zj];rw[show (zeX []).map (jw d.members)=([]:List Int) from rfl,zjU hl _ (fun x hx=>ze4 hx) hpl];simp only[q8,zJ];exact zgf (le_trans (length_filter_le _ _) (by omega))
def zhF (d:Dim) (i:Nat):List Int:=match d.members[i]? with
 | some m=>if m.formula=⟨#[]⟩ then cntP2 d i else (zeX (rdT m.formula).1).map (jw d.members)
 | none=>[]
def yi (d:Dim) (i:Nat):List Int:=setI (zhF d i)
def zem (d:Dim) (i:Nat):Option Int:=match d.members[i]? with
 | some m=>if m.formula≠⟨#[]⟩∧(rdT m.formula).2.2≠0 then some (rdT m.formula).2.2 else if hasI (yi d i) (-1)=true then some 5 else none
 | none=>none
def yY (d:Dim):List (List Int):=(List.range d.members.length).map (yi d)
def zeQ (d:Dim) (i:Nat):Option Int:=if zeP (yY d) i=some true then some 8 else none
def za6 (d:Dim):Int×Int :=
  match (List.range d.members.length).findSome? fun i=>(zem d i).map fun e=>((i:Int),e) with
  | some r=>r
  | none=>match (List.range d.members.length).findSome? fun i=>(zeQ d i).map fun e=>((i:Int),e) with
   | some r=>r
   | none=>(-1,0)
def qz (d:Dim):Int×Int:=if ¬ (qn d).2=0 then qn d else za6 d
theorem P355_eq {i:Nat} {m:Member} (h:d.members[i]? = some m):zkq d (i:Int)=some (if m.formula=⟨#[]⟩ then (none,.nil) else (some (rdT m.formula).1,zm (rdT m.formula).2.2)):=by
 simp only[zkq,S355,zh,h,zj,P248_eq];rw[zt]
 split<;>rfl
theorem rawN_len (hl:d.members.length<=12) (i:Nat):(zhF d i).length<=30:=by
 unfold zhF;split
 ·split
  ·exact le_trans (length_filter_le _ _) (le_trans (zcE _ _) (by omega))
  ·rw[length_map];exact le_trans (zeW _) (rdT_len _)
 ·simp
theorem zbb (hl:d.members.length<=12) (i:Nat):(yi d i).length<=30:=le_trans (setI_len _) (rawN_len hl i)
theorem P356_need (hl:d.members.length<=12) {i:Nat} {m:Member} (h:d.members[i]? = some m) (hf:¬ (m.formula≠⟨#[]⟩∧(rdT m.formula).2.2≠0)) :
  P356 d (i:Int) (if m.formula=⟨#[]⟩ then none else some (rdT m.formula).1)=some (yi d i):=by
 unfold yi zhF;rw[h];simp only;by_cases c:m.formula=⟨#[]⟩
 ·rw[if_pos c,if_pos c,P356_none (by omega)]
 ·have h0:(rdT m.formula).2.2=0:=Classical.byContradiction fun e=>hf ⟨c,e⟩;have ok:=rdT_ok h0;have hne:(rdT m.formula).1≠[]:=fun e=>by have:=ok.pos;rw[e] at this;simp at this
  rw[if_neg c,if_neg c,P356_some (by omega) hne (le_trans (rdT_len _) (by omega))]
theorem memF_none {i:Nat} {m:Member} (h:d.members[i]? = some m) (hn:zem d i=none):¬ (m.formula≠⟨#[]⟩∧(rdT m.formula).2.2≠0)∧hasI (yi d i) (-1)=false:=by
 unfold zem at hn;rw[h] at hn;simp only at hn;split at hn
 ·cases hn
 ·rename_i c;split at hn
  ·cases hn
  ·rename_i c2;exact ⟨c,Bool.eq_false_iff.2 c2⟩
theorem zga (l:List Member) (s:ByteArray) : -1<=jw l s∧jw l s < l.length:=by
 unfold jw idxOf;split
 ·rename_i i hi;have:=(List.findIdx?_eq_some_iff_getElem.1 hi).1;omega
 ·omega
theorem zfJ (hn:∀ i,i < d.members.length->zem d i=none):Rng (yY d):=by
 intro i k hk;unfold yY at hk ⊢;rw[length_map,length_range];by_cases hi:i < d.members.length
 ·have hx:=getElem?_eq_getElem hi;simp only[List.getD_eq_getElem?_getD,getElem?_map,List.getElem?_range hi,map_some,Option.getD_some] at hk;obtain ⟨h1,h2⟩:=memF_none hx (hn i hi);have h3:k ≠ -1:=fun e=>(by rw[e] at hk;rw[ziX.2 hk] at h2;cases h2);have hk2:k∈zhF d i:=(zaJ _).2 k |>.1 hk;unfold zhF at hk2;rw[hx] at hk2;simp only at hk2;split at hk2
  ·obtain ⟨k',rfl,hk'⟩:=ze4 (List.mem_filter.1 hk2).1;omega
  ·obtain ⟨s,_,rfl⟩:=List.mem_map.1 hk2;have:=zga d.members s;omega
 ·simp only[List.getD_eq_getElem?_getD,getElem?_map,List.getElem?_eq_none (show (List.range d.members.length).length<=i by rw[length_range];omega),map_none,Option.getD_none] at hk;cases hk
theorem zfK {i:Nat} (hi:i < d.members.length):(yY d)[i]? = some (yi d i):=by unfold yY;rw[getElem?_map,List.getElem?_range hi];rfl
theorem zhL {i:Nat} {e:Int} (h:zem d i=some e):e≠0:=by
 unfold zem at h;split at h
 ·split at h
  ·rename_i c;cases h;exact c.2
  ·split at h
   ·cases h;decide
   ·cases h
 ·cases h
theorem P303_eq (hl:d.members.length<=12) (hr:Rng (yY d)) {i:Nat} (hi:i < d.members.length):P303 (yY d) (i:Int)=zeP (yY d) i:=by
 unfold P303;rw[if_pos,Int.toNat_natCast];refine ⟨hr,by omega,by unfold yY;rw[length_map,length_range];omega,by unfold yY;rw[length_map,length_range];omega,fun k => ?_⟩;unfold yY;simp only[List.getD_eq_getElem?_getD,getElem?_map];by_cases hk:k < d.members.length
 ·rw[List.getElem?_range hk];exact le_trans (zbb hl k) (by omega)
 ·rw[List.getElem?_eq_none (by rw[length_range];omega)];simp
theorem P340_eq (d:Dim):P340 d=some (if (qz d).2=0 then yY d else [],(qz d).1,zm (qz d).2):=by
 simp only[P340,S340,P15_eq,zj,zB];by_cases h0:(qn d).2=0
 ·have ok:=zg0.1 h0;obtain ⟨hl0,hl⟩:=ok.len;rw[show qz d=za6 d from if_neg (fun h=>h h0)];unfold za6;rw[decide_eq_true h0,Bool.not_true,zg];have L1:=jx (B:=zfS zkq P356 P357 d) (fun i=>((List.range i).map (yi d),(i:Int))) d.members.length (fun i=>((zem d i).map fun e=>((i:Int),e)).map fun r=>(([]:List (List Int)),r.1,zm r.2)) (d:=(yY d,(d.members.length:Int))) (fun i hi hg=>by
   have hx:=getElem?_eq_getElem hi;simp only[zfS];rw[zt,if_pos (by omega),P355_eq hx];simp only[zj];have e4:wi ((i:Int)+1)=((i+1:Nat):Int):=by rw[jv (by omega) (by omega)];omega
   by_cases hf:(d.members[i]).formula≠⟨#[]⟩∧(rdT (d.members[i]).formula).2.2≠0
   ·have hm:zem d i=some (rdT (d.members[i]).formula).2.2:=by unfold zem;rw[hx];simp only;rw[if_pos hf]
    rw[hm,if_neg hf.1];simp only[zB,decide_eq_false hf.2,Bool.not_false,zl,map_some];rfl
   ·have hn2:=P356_need hl hx hf;have hsame:∀ (k:Option (List Node)×Err->Option (LR (List (List Int)×Int) (List (List Int)×Int×Err))),k (if (d.members[i]).formula=⟨#[]⟩ then (none,.nil) else (some (rdT (d.members[i]).formula).1,zm (rdT (d.members[i]).formula).2.2))=k (if (d.members[i]).formula=⟨#[]⟩ then none else some (rdT (d.members[i]).formula).1,.nil):=by
     intro k;by_cases c:(d.members[i]).formula=⟨#[]⟩
     ·rw[if_pos c,if_pos c]
     ·have h1:(rdT (d.members[i]).formula).2.2=0:=Classical.byContradiction fun e=>hf ⟨c,e⟩;rw[if_neg c,if_neg c,h1];rfl
    have:=hsame (fun y3=>br (!(Err.isNil y3.2)) (yh (some (([]:List (List Int)),(i:Int),y3.2))) (bno (P356 d (i:Int) y3.1) fun y4=>bno (P357 y4 (-1:Int)) fun y5=>br y5 (yh (some (([]:List (List Int)),(i:Int),Err.no (5:Int)))) (ck (decide (List.length ((List.range i).map (yi d))+List.length ([y4]:List (List Int))<=zH)) <| nxO (some ((List.range i).map (yi d)++([y4]:List (List Int)),wi ((i:Int)+(1:Int)))))));simp only at this;rw[this];have hnl:=zbb hl i;simp only[qZ,Bool.not_true,zg,hn2,zj,P357_eq _ _ (show (yi d i).length<=9223372036854775807 by omega)];have hm:zem d i=if hasI (yi d i) (-1)=true then some 5 else none:=by unfold zem;rw[hx];simp only;rw[if_neg hf]
    rw[hm];by_cases c:hasI (yi d i) (-1)=true
    ·rw[c];rfl
    ·rw[Bool.not_eq_true] at c;rw[c];simp only[zg,Bool.false_eq_true,if_false,map_none];rw[zw (by rw[length_map,length_range];simp only[List.length_singleton];unfold zH;omega),e4,List.range_succ,List.map_append]
     rfl) (fun _=>by
   simp only[zfS];rw[zt,if_neg (by omega)]
   rfl)
  have e0:(([]:List (List Int)),(0:Int))=((List.range 0).map (yi d),((0:Nat):Int)):=rfl;rw[jh,e0,L1,z6];cases hs:(List.range d.members.length).findSome? (fun i=>(zem d i).map fun e=>((i:Int),e)) with
  | some r =>have hr:r.2≠0:=(by obtain ⟨i,_,hi⟩:=exists_of_findSome?_eq_some hs;obtain ⟨e,he,rfl⟩:=map_eq_some_iff.1 hi;exact zhL he);simp only[map_some,jn_r,if_neg hr]
  | none =>
   have hnone:∀ i,i < d.members.length->zem d i=none:=fun i hi=>(by have:=List.findSome?_eq_none_iff.1 hs i (mem_range.2 hi);simpa using this);have hrng:=zfJ hnone;simp only[map_none,q8];have L2:=jx (B:=zfR P303 d (yY d,(d.members.length:Int))) (fun i=>(i:Int)) d.members.length (fun i=>((zeQ d i).map fun e=>((i:Int),e)).map fun r=>(([]:List (List Int)),r.1,zm r.2)) (d:=((d.members.length:Nat):Int)) (fun i hi hg=>by
    simp only[zfR];have e4:wi ((i:Int)+1)=((i+1:Nat):Int):=by rw[jv (by omega) (by omega)];omega
    obtain ⟨b,hb⟩:=zbA hrng i;rw[zt,if_pos (by omega),P303_eq hl hrng hi,hb];simp only[zj];unfold zeQ;rw[hb];cases b with
    | true=>rfl
    | false =>
     simp only[zg,e4,Option.some.injEq,Bool.false_eq_true,if_false,map_none]
     rfl) (fun _=>by
    simp only[zfR];rw[zt,if_neg (by omega)]
    rfl)
   rw[jh,show (0:Int)=((0:Nat):Int) from rfl,L2,z6];cases hs2:(List.range d.members.length).findSome? (fun i=>(zeQ d i).map fun e=>((i:Int),e)) with
   | some r =>
    have hr:r.2≠0:=by
     obtain ⟨i,_,hi⟩:=exists_of_findSome?_eq_some hs2;obtain ⟨e,he,rfl⟩:=map_eq_some_iff.1 hi;unfold zeQ at he;split at he
     ·cases he;show (8:Int)≠0;decide
     ·cases he
    simp only[map_some,jn_r];rw[if_neg (show ¬ r.2=((0:Nat):Int) from hr)]
   | none=>rfl
 ·rw[show qz d=qn d from if_pos h0,decide_eq_false h0,Bool.not_false,zl,if_neg h0]
end
end
section
section
variable {n:List (List Int)} (hr:Rng n) (hn:n.length<=100000) (hw:∀ i,(n.getD i []).length<=100000)
include hr hn hw
end
end
section
theorem zcJ (d:Dim):(yY d).length=d.members.length:=by unfold yY;rw[length_map,length_range]
theorem zjP {d:Dim} (h:(qz d).2=0):d.members.length<=12∧Rng (yY d)∧Acyc (yY d):=by
 have h0:(qn d).2=0:=Classical.byContradiction fun h1=>(by rw[show qz d=qn d from if_pos h1] at h;exact h1 h);have ok:=zg0.1 h0;obtain ⟨hl0,hl⟩:=ok.len;rw[show qz d=za6 d from if_neg (fun h=>h h0)] at h;unfold za6 at h;cases hs:(List.range d.members.length).findSome? (fun i=>(zem d i).map fun e=>((i:Int),e)) with
 | some r =>rw[hs] at h;obtain ⟨i,_,hi⟩:=exists_of_findSome?_eq_some hs;obtain ⟨e,he,rfl⟩:=map_eq_some_iff.1 hi;exact absurd h (zhL he)
 | none =>
  rw[hs] at h;have hnone:∀ i,i < d.members.length->zem d i=none:=fun i hi=>(by have:=List.findSome?_eq_none_iff.1 hs i (mem_range.2 hi);simpa using this);have hrng:=zfJ hnone;refine ⟨hl,hrng,fun i hi => ?_⟩;rw[zcJ] at hi;obtain ⟨b,hb⟩:=zbA hrng i;cases b with
  | false=>exact zcU hrng hb
  | true =>
   cases hs2:(List.range d.members.length).findSome? (fun i=>(zeQ d i).map fun e=>((i:Int),e)) with
   | some r =>
    rw[hs2] at h;obtain ⟨j,_,hj⟩:=exists_of_findSome?_eq_some hs2;obtain ⟨e,he,rfl⟩:=map_eq_some_iff.1 hj;unfold zeQ at he;split at he
    ·cases he;have h8:(8:Int)=0:=h;omega
    ·cases he
   | none =>have:=List.findSome?_eq_none_iff.1 hs2 i (mem_range.2 hi);unfold zeQ at this;rw[if_pos hb] at this;cases this
theorem P315_eq (d:Dim):P315 d=some ((qz d).1,zm (qz d).2):=by simp only[P315,S315,P340_eq,zj]
end
end Ab
