import Derived.Test.YtkaifdgeigdbhaaGreatDoorC9
open List (exists_of_findSome?_eq_some getElem?_eq_getElem getElem?_map length_filter_le length_map length_range mem_range)
open Nat (le_trans)
open Option (map_eq_some_iff map_none map_some toList_some)
set_option linter.unusedVariables false
set_option linter.unusedSimpArgs false
noncomputable section
namespace Ab
open Go
section
theorem rdT_ex (s:ByteArray):∃ (l:List Node) (n e:Int),P247 s=some (l,n,e)∧P248 s=some (l,n,zq e)∧l.length<=30∧(e=0->FormOk l)∧0<=e:=by
 unfold P247 P248;by_cases hs:100 < s.size
 ·rw[if_pos hs,if_pos hs];exact ⟨[],0,4,rfl,rfl,by simp,fun e=>by omega,by omega⟩
 ·rw[if_neg hs,if_neg hs];obtain ⟨r,e⟩:=ziO (s:=s) (by omega);rw[e,show rd s 404 (.row true) 0 []=some r from e];cases r with
  | bad b=>exact ⟨[],b,2,rfl,rfl,by simp,fun e=>by omega,by omega⟩
  | ok i b l =>
   simp only;by_cases hb:b < s.size
   ·rw[if_pos hb,if_pos hb];exact ⟨[],b,2,rfl,rfl,by simp,fun e=>by omega,by omega⟩
   ·rw[if_neg hb,if_neg hb,P240_eq,P241_eq];simp only[zl];by_cases h0:zdq l=0
    ·have ok:=form_ok.1 h0;refine ⟨l,0,0, ?_, ?_,ok.most,fun _=>ok,Int.le_refl _⟩
     ·rw[h0];rfl
     ·rw[h0];rfl
    ·have hp:0<=zdq l:=by
      unfold zdq;split
      ·omega
      split
      ·omega
      split
      ·rename_i e he;obtain ⟨i,_,hi⟩:=exists_of_findSome?_eq_some he;unfold jl at hi;split at hi
       ·split at hi
        ·cases hi
        ·cases hi;unfold qH
         repeat' split
         all_goals omega
       ·cases hi
      ·split
       ·rename_i e he;obtain ⟨i,_,hi⟩:=exists_of_findSome?_eq_some he;unfold jJ at hi;split at hi
        ·cases hi
        ·cases hi;omega
       ·omega
     refine ⟨[],0,zdq l, ?_, ?_,by simp,fun e=>absurd e h0,hp⟩
     ·rw[if_neg h0]
     ·rw[zZ,if_neg (by simpa using h0)]
def rdT (s:ByteArray):List Node×Int×Int:=(P247 s).getD ([],0,0)
theorem P248_eq (s:ByteArray):P248 s=some ((rdT s).1,(rdT s).2.1,zq (rdT s).2.2):=by obtain ⟨l,n,e,h1,h2,_⟩:=rdT_ex s;unfold rdT;rw[h1,h2];rfl
theorem rdT_ok {s:ByteArray} (h:(rdT s).2.2=0):FormOk (rdT s).1:=by obtain ⟨l,n,e,h1,_,_,h4,_⟩:=rdT_ex s;unfold rdT at h ⊢;rw[h1] at h ⊢;exact h4 h
theorem rdT_len (s:ByteArray):(rdT s).1.length<=30:=by obtain ⟨l,n,e,h1,_,h3,_⟩:=rdT_ex s;unfold rdT;rw[h1];exact h3
def hasI (l:List Int) (n:Int):Bool:=l.any fun y=>decide (y=n)
theorem zh0 {l:List Int} {n:Int}:hasI l n=true↔n∈l:=by simp[hasI]
theorem P362_eq (l:List Int) (n:Int) (h:l.length<=9223372036854775807):P362 l n=some (idxOf (fun y=>decide (y=n)) l):=by
 refine zaK _ l (fun i y hy => ?_) (by simp[zhu]);have hi:=(List.getElem?_eq_some_iff.1 hy).1;have e:(((i:Nat):Int) < ((l.length:Nat):Int)):=by omega
 simp only[zhu,zh,hy,zl,e,decide_true,zo];rw[ju (by omega) (by omega)];by_cases c:y=n
 ·simp[c]
 ·have c':¬ n=y:=fun e=>c e.symm;simp[c,c']
theorem P357_eq (l:List Int) (n:Int) (h:l.length<=9223372036854775807):P357 l n=some (hasI l n):=by simp only[P357,S357,P362_eq l n h,zl];congr 1;exact zeX _ _
theorem compI_len (l:List Int):(zgf l).length<=l.length:=by unfold zgf Lib.compact Lib.compactUpTo;rw[length_map];exact le_trans (length_filter_le _ _) (by simp)
theorem setI_len (l:List Int):(setI l).length<=l.length:=by have:=compI_len (zcb l);rw[jY] at this;exact this
theorem zfl {l:List Int} (h:l.length<=1000000):(bno (P213 l) fun y13=>ck (decide (List.length y13=List.length l)) <| bno (P302 y13) fun y14=>some y14)=some (setI l):=by unfold P213 P302;rw[zC (by unfold zF;omega)];simp only[zl];rw[zC (jY l),zC (by rw[jY];unfold zF;omega)];rfl
theorem zbX {α:Type} {b:Bool} (h:b=true) (x:Option α):ck b x=x:=by rw[h];rfl
section
variable {d:Dim}
def cntP2 (d:Dim) (i:Int):List Int:=(partsOf d.members i).filter fun k=>decide (¬ sgn d.members k=0)
theorem zem {i x:Int} (h:x∈partsOf d.members i):∃ k:Nat,x=k∧k < d.members.length:=by obtain ⟨k,e,hk,_⟩:=zhQ.1 h;exact ⟨k,e,hk⟩
theorem zdl {l:List Node} {i:Nat} {x:Node} (h:l[i]? = some x):zeh (l.take (i+1))=zeh (l.take i)++(if x.op=2 then [x.name] else []):=by rw[List.take_add_one,h,refL_app];congr 1;unfold zeh;by_cases c:x.op=2<;>simp[c]
theorem zdM (hl:d.members.length<=1000) {l:List Node} (h30:l.length<=1000) (a2:Option (List Node)) (ha:Option.getD a2 []=l):lpO (zc8 P37 d a2) (([]:List Int),(0:Int))=some (.inl ((zeh l).map (jb d.members),(l.length:Int))):=by
 have hs:=zJ (B:=zc8 P37 d a2) (fun i=>((zeh (l.take i)).map (jb d.members),(i:Int))) l.length (fun i hi=>by
  have hx:=getElem?_eq_getElem hi;simp only[zc8,ha];rw[zu,if_pos (by omega)];simp only[zh,hx,zl];have e4:wi ((i:Int)+1)=((i+1:Nat):Int):=by rw[ju (by omega) (by omega)];omega
  rw[zdl hx,zu];have hb:(zeh (l.take i)).length<=1000:=le_trans (zeg _) (by rw[List.length_take];omega);by_cases c:l[i].op=2
  ·rw[if_pos c,P37_eq _ _ (by omega),if_pos c];simp only[zl];rw[zC (by rw[length_map];simp only[List.length_singleton];unfold zF;omega)];simp only[zM,ji,e4,List.map_append,List.map_cons,List.map_nil];rfl
  ·rw[if_neg c,if_neg c];simp only[zM,ji,e4,List.append_nil]
   rfl)
 rw[show (([]:List Int),(0:Int))=((zeh (l.take 0)).map (jb d.members),((0:Nat):Int)) by rw[List.take_zero];rfl,hs,List.take_length];refine qm ?_;simp only[zc8,ha];rw[zu,if_neg (by omega)];rfl
theorem P356_some (hl:d.members.length<=1000) {l:List Node} (hne:l≠[]) (h30:l.length<=1000) (i:Int):P356 d i (some l)=some (setI ((zeh l).map (jb d.members))):=by simp only[P356,S356,qY,zdM hl h30 (some l) rfl,ji];rw[zbX (by cases l with | nil=>exact absurd rfl hne | cons=>rfl)];simp only[Option.isNone_some,zg,zM,ji];exact zfl (by rw[length_map];exact le_trans (zeg _) (by omega))
theorem ziP (hl:d.members.length<=1000) (ps:List Int) (hp:∀ x∈ps,∃ k:Nat,x=k∧k < d.members.length) (hn:ps.length<=1000):lpO (zc7 d ps) (([]:List Int),(0:Int))=some (.inl (ps.filter (fun k=>decide (¬ sgn d.members k=0)),(ps.length:Int))):=by
 have hs:=zJ (B:=zc7 d ps) (fun i=>((ps.take i).filter (fun k=>decide (¬ sgn d.members k=0)),(i:Int))) ps.length (fun i hi=>by
  have hx:=getElem?_eq_getElem hi;obtain ⟨k,hk,hkl⟩:=hp _ (List.getElem_mem hi);have hm:=getElem?_eq_getElem hkl;simp only[zc7];rw[zu,if_pos (by omega)];have e4:wi ((i:Int)+1)=((i+1:Nat):Int):=by rw[ju (by omega) (by omega)];omega
  have hb:((ps.take i).filter (fun k=>decide (¬ sgn d.members k=0))).length<=1000:=le_trans (length_filter_le _ _) (by rw[List.length_take];omega);have hsg:sgn d.members ps[i]=(d.members[k]).sign:=by unfold sgn;rw[hk,Int.toNat_natCast,hm]
  simp only[zh,hx,zl];rw[show zn d.members ps[i]=some d.members[k] by rw[hk,zh,hm]];simp only[zl];rw[List.take_add_one,hx,List.filter_append,zu];by_cases c:(d.members[k]).sign=0
  ·rw[if_neg (by simpa using c)];simp only[zM,ji,e4,toList_some];rw[List.filter_cons_of_neg (by rw[hsg];simpa using c)];simp
  ·rw[if_pos c,zC (by simp only[List.length_singleton];unfold zF;omega)];simp only[zM,ji,e4,toList_some];rw[List.filter_cons_of_pos (by rw[hsg];simpa using c)]
   rfl)
 rw[show (([]:List Int),(0:Int))=((ps.take 0).filter (fun k=>decide (¬ sgn d.members k=0)),((0:Nat):Int)) by rw[List.take_zero];rfl,hs,List.take_length];refine qm ?_;simp only[zc7];rw[zu,if_neg (by omega)];rfl
theorem P356_none (hl:d.members.length<=1000) (i:Int):P356 d i none=some (setI (cntP2 d i)):=by simp only[P356,S356,qY,zdM hl (l:=[]) (by simp) none rfl,ji];rw[zbX rfl];have hpl:(partsOf d.members i).length<=1000:=le_trans (zbT _ _) hl;simp only[Option.isNone_none,zo,P47_eq hl,zl];rw[show (zeh []).map (jb d.members)=([]:List Int) from rfl,ziP hl _ (fun x hx=>zem hx) hpl];simp only[ji,zM];exact zfl (le_trans (length_filter_le _ _) (by omega))
def zgQ (d:Dim) (i:Nat):List Int:=match d.members[i]? with
 | some m=>if m.formula=⟨#[]⟩ then cntP2 d i else (zeh (rdT m.formula).1).map (jb d.members)
 | none=>[]
def zay (d:Dim) (i:Nat):List Int:=setI (zgQ d i)
def zdN (d:Dim) (i:Nat):Option Int:=match d.members[i]? with
 | some m=>if m.formula≠⟨#[]⟩∧(rdT m.formula).2.2≠0 then some (rdT m.formula).2.2 else if hasI (zay d i) (-1)=true then some 5 else none
 | none=>none
def zbk (d:Dim):List (List Int):=(List.range d.members.length).map (zay d)
def zed (d:Dim) (i:Nat):Option Int:=if zeb (zbk d) i=some true then some 8 else none
def zav (d:Dim):Int×Int :=
  match (List.range d.members.length).findSome? fun i=>(zdN d i).map fun e=>((i:Int),e) with
  | some r=>r
  | none=>match (List.range d.members.length).findSome? fun i=>(zed d i).map fun e=>((i:Int),e) with
   | some r=>r
   | none=>(-1,0)
def qD (d:Dim):Int×Int:=if ¬ (qd d).2=0 then qd d else zav d
theorem P355_eq {i:Nat} {m:Member} (h:d.members[i]? = some m):zjj d (i:Int)=some (if m.formula=⟨#[]⟩ then (none,.nil) else (some (rdT m.formula).1,zq (rdT m.formula).2.2)):=by
 simp only[zjj,S355,zh,h,zl,P248_eq];rw[zu]
 split<;>rfl
theorem rawN_len (hl:d.members.length<=12) (i:Nat):(zgQ d i).length<=30:=by
 unfold zgQ;split
 ·split
  ·exact le_trans (length_filter_le _ _) (le_trans (zbT _ _) (by omega))
  ·rw[length_map];exact le_trans (zeg _) (rdT_len _)
 ·simp
theorem zfN (hl:d.members.length<=12) (i:Nat):(zay d i).length<=30:=le_trans (setI_len _) (rawN_len hl i)
theorem P356_need (hl:d.members.length<=12) {i:Nat} {m:Member} (h:d.members[i]? = some m) (hf:¬ (m.formula≠⟨#[]⟩∧(rdT m.formula).2.2≠0)) :
  P356 d (i:Int) (if m.formula=⟨#[]⟩ then none else some (rdT m.formula).1)=some (zay d i):=by
 unfold zay zgQ;rw[h];simp only;by_cases c:m.formula=⟨#[]⟩
 ·rw[if_pos c,if_pos c,P356_none (by omega)]
 ·have h0:(rdT m.formula).2.2=0:=Classical.byContradiction fun e=>hf ⟨c,e⟩;have ok:=rdT_ok h0;have hne:(rdT m.formula).1≠[]:=fun e=>by have:=ok.pos;rw[e] at this;simp at this
  rw[if_neg c,if_neg c,P356_some (by omega) hne (le_trans (rdT_len _) (by omega))]
theorem memF_none {i:Nat} {m:Member} (h:d.members[i]? = some m) (hn:zdN d i=none):¬ (m.formula≠⟨#[]⟩∧(rdT m.formula).2.2≠0)∧hasI (zay d i) (-1)=false:=by
 unfold zdN at hn;rw[h] at hn;simp only at hn;split at hn
 ·cases hn
 ·rename_i c;split at hn
  ·cases hn
  ·rename_i c2;exact ⟨c,Bool.eq_false_iff.2 c2⟩
theorem zff (l:List Member) (s:ByteArray) : -1<=jb l s∧jb l s < l.length:=by
 unfold jb idxOf;split
 ·rename_i i hi;have:=(List.findIdx?_eq_some_iff_getElem.1 hi).1;omega
 ·omega
theorem zeY (hn:∀ i,i < d.members.length->zdN d i=none):Rng (zbk d):=by
 intro i k hk;unfold zbk at hk ⊢;rw[length_map,length_range];by_cases hi:i < d.members.length
 ·have hx:=getElem?_eq_getElem hi;simp only[List.getD_eq_getElem?_getD,getElem?_map,List.getElem?_range hi,map_some,Option.getD_some] at hk;obtain ⟨h1,h2⟩:=memF_none hx (hn i hi);have h3:k ≠ -1:=fun e=>(by rw[e] at hk;rw[zh0.2 hk] at h2;cases h2);have hk2:k∈zgQ d i:=(zea _).2 k |>.1 hk;unfold zgQ at hk2;rw[hx] at hk2;simp only at hk2;split at hk2
  ·obtain ⟨k',rfl,hk'⟩:=zem (List.mem_filter.1 hk2).1;omega
  ·obtain ⟨s,_,rfl⟩:=List.mem_map.1 hk2;have:=zff d.members s;omega
 ·simp only[List.getD_eq_getElem?_getD,getElem?_map,List.getElem?_eq_none (show (List.range d.members.length).length<=i by rw[length_range];omega),map_none,Option.getD_none] at hk;cases hk
theorem zik {i:Nat} (hi:i < d.members.length):(zbk d)[i]? = some (zay d i):=by unfold zbk;rw[getElem?_map,List.getElem?_range hi];rfl
theorem zgX {i:Nat} {e:Int} (h:zdN d i=some e):e≠0:=by
 unfold zdN at h;split at h
 ·split at h
  ·rename_i c;cases h;exact c.2
  ·split at h
   ·cases h;decide
   ·cases h
 ·cases h
theorem P303_eq (hl:d.members.length<=12) (hr:Rng (zbk d)) {i:Nat} (hi:i < d.members.length):P303 (zbk d) (i:Int)=zeb (zbk d) i:=by
 unfold P303;rw[if_pos,Int.toNat_natCast];refine ⟨hr,by omega,by unfold zbk;rw[length_map,length_range];omega,by unfold zbk;rw[length_map,length_range];omega,fun k => ?_⟩;unfold zbk;simp only[List.getD_eq_getElem?_getD,getElem?_map];by_cases hk:k < d.members.length
 ·rw[List.getElem?_range hk];exact le_trans (zfN hl k) (by omega)
 ·rw[List.getElem?_eq_none (by rw[length_range];omega)];simp
theorem P340_eq (d:Dim):P340 d=some (if (qD d).2=0 then zbk d else [],(qD d).1,zq (qD d).2):=by
 simp only[P340,S340,P15_eq,zl,zZ];by_cases h0:(qd d).2=0
 ·have ok:=zgd.1 h0;obtain ⟨hl0,hl⟩:=ok.len;rw[show qD d=zav d from if_neg (fun h=>h h0)];unfold zav;rw[decide_eq_true h0,Bool.not_true,zg];have L1:=yo (B:=ze6 zjj P356 P357 d) (fun i=>((List.range i).map (zay d),(i:Int))) d.members.length (fun i=>((zdN d i).map fun e=>((i:Int),e)).map fun r=>(([]:List (List Int)),r.1,zq r.2)) (d:=(zbk d,(d.members.length:Int))) (fun i hi hg=>by
   have hx:=getElem?_eq_getElem hi;simp only[ze6];rw[zu,if_pos (by omega),P355_eq hx];simp only[zl];have e4:wi ((i:Int)+1)=((i+1:Nat):Int):=by rw[ju (by omega) (by omega)];omega
   by_cases hf:(d.members[i]).formula≠⟨#[]⟩∧(rdT (d.members[i]).formula).2.2≠0
   ·have hm:zdN d i=some (rdT (d.members[i]).formula).2.2:=by unfold zdN;rw[hx];simp only;rw[if_pos hf]
    rw[hm,if_neg hf.1];simp only[zZ,decide_eq_false hf.2,Bool.not_false,zo,map_some];rfl
   ·have hn2:=P356_need hl hx hf;have hsame:∀ (k:Option (List Node)×Err->Option (LR (List (List Int)×Int) (List (List Int)×Int×Err))),k (if (d.members[i]).formula=⟨#[]⟩ then (none,.nil) else (some (rdT (d.members[i]).formula).1,zq (rdT (d.members[i]).formula).2.2))=k (if (d.members[i]).formula=⟨#[]⟩ then none else some (rdT (d.members[i]).formula).1,.nil):=by
     intro k;by_cases c:(d.members[i]).formula=⟨#[]⟩
     ·rw[if_pos c,if_pos c]
     ·have h1:(rdT (d.members[i]).formula).2.2=0:=Classical.byContradiction fun e=>hf ⟨c,e⟩;rw[if_neg c,if_neg c,h1];rfl
    have:=hsame (fun y3=>br (!(Err.isNil y3.2)) (jB (some (([]:List (List Int)),(i:Int),y3.2))) (bno (P356 d (i:Int) y3.1) fun y4=>bno (P357 y4 (-1:Int)) fun y5=>br y5 (jB (some (([]:List (List Int)),(i:Int),Err.no (5:Int)))) (ck (decide (List.length ((List.range i).map (zay d))+List.length ([y4]:List (List Int))<=zF)) <| nxO (some ((List.range i).map (zay d)++([y4]:List (List Int)),wi ((i:Int)+(1:Int)))))));simp only at this;rw[this];have hnl:=zfN hl i;simp only[jd,Bool.not_true,zg,hn2,zl,P357_eq _ _ (show (zay d i).length<=9223372036854775807 by omega)];have hm:zdN d i=if hasI (zay d i) (-1)=true then some 5 else none:=by unfold zdN;rw[hx];simp only;rw[if_neg hf]
    rw[hm];by_cases c:hasI (zay d i) (-1)=true
    ·rw[c];rfl
    ·rw[Bool.not_eq_true] at c;rw[c];simp only[zg,Bool.false_eq_true,if_false,map_none];rw[zC (by rw[length_map,length_range];simp only[List.length_singleton];unfold zF;omega),e4,List.range_succ,List.map_append]
     rfl) (fun _=>by
   simp only[ze6];rw[zu,if_neg (by omega)]
   rfl)
  have e0:(([]:List (List Int)),(0:Int))=((List.range 0).map (zay d),((0:Nat):Int)):=rfl;rw[qY,e0,L1,qn];cases hs:(List.range d.members.length).findSome? (fun i=>(zdN d i).map fun e=>((i:Int),e)) with
  | some r =>have hr:r.2≠0:=(by obtain ⟨i,_,hi⟩:=exists_of_findSome?_eq_some hs;obtain ⟨e,he,rfl⟩:=map_eq_some_iff.1 hi;exact zgX he);simp only[map_some,jn_r,if_neg hr]
  | none =>
   have hnone:∀ i,i < d.members.length->zdN d i=none:=fun i hi=>(by have:=List.findSome?_eq_none_iff.1 hs i (mem_range.2 hi);simpa using this);have hrng:=zeY hnone;simp only[map_none,ji];have L2:=yo (B:=ze5 P303 d (zbk d,(d.members.length:Int))) (fun i=>(i:Int)) d.members.length (fun i=>((zed d i).map fun e=>((i:Int),e)).map fun r=>(([]:List (List Int)),r.1,zq r.2)) (d:=((d.members.length:Nat):Int)) (fun i hi hg=>by
    simp only[ze5];have e4:wi ((i:Int)+1)=((i+1:Nat):Int):=by rw[ju (by omega) (by omega)];omega
    obtain ⟨b,hb⟩:=zaU hrng i;rw[zu,if_pos (by omega),P303_eq hl hrng hi,hb];simp only[zl];unfold zed;rw[hb];cases b with
    | true=>rfl
    | false =>
     simp only[zg,e4,Option.some.injEq,Bool.false_eq_true,if_false,map_none]
     rfl) (fun _=>by
    simp only[ze5];rw[zu,if_neg (by omega)]
    rfl)
   rw[qY,show (0:Int)=((0:Nat):Int) from rfl,L2,qn];cases hs2:(List.range d.members.length).findSome? (fun i=>(zed d i).map fun e=>((i:Int),e)) with
   | some r =>
    have hr:r.2≠0:=by
     obtain ⟨i,_,hi⟩:=exists_of_findSome?_eq_some hs2;obtain ⟨e,he,rfl⟩:=map_eq_some_iff.1 hi;unfold zed at he;split at he
     ·cases he;show (8:Int)≠0;decide
     ·cases he
    simp only[map_some,jn_r];rw[if_neg (show ¬ r.2=((0:Nat):Int) from hr)]
   | none=>rfl
 ·rw[show qD d=qd d from if_pos h0,decide_eq_false h0,Bool.not_false,zo,if_neg h0]
end
end
section
section
variable {n:List (List Int)} (hr:Rng n) (hn:n.length<=100000) (hw:∀ i,(n.getD i []).length<=100000)
include hr hn hw
end
end
section
theorem zb0 (d:Dim):(zbk d).length=d.members.length:=by unfold zbk;rw[length_map,length_range]
theorem ziN {d:Dim} (h:(qD d).2=0):d.members.length<=12∧Rng (zbk d)∧Acyc (zbk d):=by
 have h0:(qd d).2=0:=Classical.byContradiction fun h1=>(by rw[show qD d=qd d from if_pos h1] at h;exact h1 h);have ok:=zgd.1 h0;obtain ⟨hl0,hl⟩:=ok.len;rw[show qD d=zav d from if_neg (fun h=>h h0)] at h;unfold zav at h;cases hs:(List.range d.members.length).findSome? (fun i=>(zdN d i).map fun e=>((i:Int),e)) with
 | some r =>rw[hs] at h;obtain ⟨i,_,hi⟩:=exists_of_findSome?_eq_some hs;obtain ⟨e,he,rfl⟩:=map_eq_some_iff.1 hi;exact absurd h (zgX he)
 | none =>
  rw[hs] at h;have hnone:∀ i,i < d.members.length->zdN d i=none:=fun i hi=>(by have:=List.findSome?_eq_none_iff.1 hs i (mem_range.2 hi);simpa using this);have hrng:=zeY hnone;refine ⟨hl,hrng,fun i hi => ?_⟩;rw[zb0] at hi;obtain ⟨b,hb⟩:=zaU hrng i;cases b with
  | false=>exact zce hrng hb
  | true =>
   cases hs2:(List.range d.members.length).findSome? (fun i=>(zed d i).map fun e=>((i:Int),e)) with
   | some r =>
    rw[hs2] at h;obtain ⟨j,_,hj⟩:=exists_of_findSome?_eq_some hs2;obtain ⟨e,he,rfl⟩:=map_eq_some_iff.1 hj;unfold zed at he;split at he
    ·cases he;have h8:(8:Int)=0:=h;omega
    ·cases he
   | none =>have:=List.findSome?_eq_none_iff.1 hs2 i (mem_range.2 hi);unfold zed at this;rw[if_pos hb] at this;cases this
theorem P315_eq (d:Dim):P315 d=some ((qD d).1,zq (qD d).2):=by simp only[P315,S315,P340_eq,zl]
end
end Ab
