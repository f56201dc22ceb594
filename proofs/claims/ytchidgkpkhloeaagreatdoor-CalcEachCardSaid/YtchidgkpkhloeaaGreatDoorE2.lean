import Derived.Test.YtchidgkpkhloeaaGreatDoorC9
open List (exists_of_findSome?_eq_some getD_eq_getElem?_getD getElem?_eq_getElem getElem?_eq_none getElem?_map getElem?_range length_filter_le length_map length_range length_singleton map_append mem_range)
open Nat (le_trans)
open Option (map_eq_some_iff map_none map_some toList_some)
open Int (toNat_natCast)
open Bool (not_eq_true not_not)
set_option linter.unusedVariables false
set_option linter.unusedSimpArgs false
noncomputable section
namespace Ab
open Go
section
theorem ziq (s:ByteArray):∃ (l:List Node) (n e:Int),P247 s=some (l,n,e)∧P248 s=some (l,n,zn e)∧l.length<=30∧(e=0->FormOk l)∧0<=e:=by
 unfold P247 P248;by_cases hs:100 < s.size
 ·rw[if_pos hs,if_pos hs];exact ⟨[],0,4,rfl,rfl,by simp,fun e=>by omega,by omega⟩
 ·rw[if_neg hs,if_neg hs];obtain ⟨r,e⟩:=zjz (s:=s) (by omega);rw[e,show rd s 404 (.row true) 0 []=some r from e];cases r with
  | bad b=>exact ⟨[],b,2,rfl,rfl,by simp,fun e=>by omega,by omega⟩
  | ok i b l =>
   simp only;by_cases hb:b < s.size
   ·rw[if_pos hb,if_pos hb];exact ⟨[],b,2,rfl,rfl,by simp,fun e=>by omega,by omega⟩
   ·rw[if_neg hb,if_neg hb,P240_eq,P241_eq];simp only[zi];by_cases h0:zdM l=0
    ·have ok:=form_ok.1 h0;refine ⟨l,0,0, ?_, ?_,ok.most,fun _=>ok,Int.le_refl _⟩
     ·rw[h0];rfl
     ·rw[h0];rfl
    ·have hp:0<=zdM l:=by
      unfold zdM;split
      ·omega
      split
      ·omega
      split
      ·rename_i e he;obtain ⟨i,_,hi⟩:=exists_of_findSome?_eq_some he;unfold jm at hi;split at hi
       ·split at hi
        ·cases hi
        ·cases hi;unfold qI
         repeat' split
         all_goals omega
       ·cases hi
      ·split
       ·rename_i e he;obtain ⟨i,_,hi⟩:=exists_of_findSome?_eq_some he;unfold jM at hi;split at hi
        ·cases hi
        ·cases hi;omega
       ·omega
     refine ⟨[],0,zdM l, ?_, ?_,by simp,fun e=>absurd e h0,hp⟩
     ·rw[if_neg h0]
     ·rw[zG,if_neg (by simpa using h0)]
def rdT (s:ByteArray):List Node×Int×Int:=(P247 s).getD ([],0,0)
theorem P247_eq (s:ByteArray):P247 s=some (rdT s):=by obtain ⟨l,n,e,h1,_⟩:=ziq s;unfold rdT;rw[h1];rfl
theorem P248_eq (s:ByteArray):P248 s=some ((rdT s).1,(rdT s).2.1,zn (rdT s).2.2):=by obtain ⟨l,n,e,h1,h2,_⟩:=ziq s;unfold rdT;rw[h1,h2];rfl
theorem rdT_ok {s:ByteArray} (h:(rdT s).2.2=0):FormOk (rdT s).1:=by obtain ⟨l,n,e,h1,_,_,h4,_⟩:=ziq s;unfold rdT at h ⊢;rw[h1] at h ⊢;exact h4 h
theorem zhl (s:ByteArray):(rdT s).1.length<=30:=by obtain ⟨l,n,e,h1,_,h3,_⟩:=ziq s;unfold rdT;rw[h1];exact h3
def hasI (l:List Int) (n:Int):Bool:=l.any fun y=>decide (y=n)
theorem ziH {l:List Int} {n:Int}:hasI l n=true↔n∈l:=by simp[hasI]
theorem P362_eq (l:List Int) (n:Int) (h:l.length<=9223372036854775807):P362 l n=some (idxOf (fun y=>decide (y=n)) l):=by
 refine jT _ l (fun i y hy => ?_) (by simp[zh3]);have hi:=(List.getElem?_eq_some_iff.1 hy).1;have e:(((i:Nat):Int) < ((l.length:Nat):Int)):=by omega
 simp only[zh3,zb,hy,zi,e,decide_true,zm];rw[qL (by omega) (by omega)];by_cases c:y=n
 ·simp[c]
 ·have c':¬ n=y:=fun e=>c e.symm;simp[c,c']
theorem P357_eq (l:List Int) (n:Int) (h:l.length<=9223372036854775807):P357 l n=some (hasI l n):=by simp only[P357,S357,P362_eq l n h,zi];congr 1;exact zdh _ _
theorem compI_len (l:List Int):(zgH l).length<=l.length:=by unfold zgH Lib.compact Lib.compactUpTo;rw[length_map];exact le_trans (length_filter_le _ _) (by simp)
theorem setI_len (l:List Int):(setI l).length<=l.length:=by have:=compI_len (yB l);rw[qS] at this;exact this
theorem zfP {l:List Int} (h:l.length<=1000000):(bno (P213 l) fun y13=>ck (decide (List.length y13=List.length l)) <| bno (P302 y13) fun y14=>some y14)=some (setI l):=by unfold P213 P302;rw[zp (by unfold zu;omega)];simp only[zi];rw[zp (qS l),zp (by rw[qS];unfold zu;omega)];rfl
theorem zb8 {α:Type} {b:Bool} (h:b=true) (x:Option α):ck b x=x:=by rw[h];rfl
section
variable {d:Dim}
def cntP2 (d:Dim) (i:Int):List Int:=(partsOf d.members i).filter fun k=>decide (¬ sgn d.members k=0)
theorem zb2 {i x:Int} (h:x∈partsOf d.members i):∃ k:Nat,x=k∧k < d.members.length:=by obtain ⟨k,e,hk,_⟩:=ziz.1 h;exact ⟨k,e,hk⟩
theorem zdH {l:List Node} {i:Nat} {x:Node} (h:l[i]? = some x):zao (l.take (i+1))=zao (l.take i)++(if x.op=2 then [x.name] else []):=by rw[List.take_add_one,h,refL_app];congr 1;unfold zao;by_cases c:x.op=2<;>simp[c]
theorem zd6 (hl:d.members.length<=1000) {l:List Node} (h30:l.length<=1000) (a2:Option (List Node)) (ha:Option.getD a2 []=l):lpO (zdn P37 d a2) (([]:List Int),(0:Int))=some (.inl ((zao l).map (qM d.members),(l.length:Int))):=by
 have hs:=zJ (B:=zdn P37 d a2) (fun i=>((zao (l.take i)).map (qM d.members),(i:Int))) l.length (fun i hi=>by
  have hx:=getElem?_eq_getElem hi;simp only[zdn,ha];rw[zl,if_pos (by omega)];simp only[zb,hx,zi];have e4:wi ((i:Int)+1)=((i+1:Nat):Int):=by rw[qL (by omega) (by omega)];omega
  rw[zdH hx,zl];have hb:(zao (l.take i)).length<=1000:=le_trans (zb1 _) (by rw[List.length_take];omega);by_cases c:l[i].op=2
  ·rw[if_pos c,P37_eq _ _ (by omega),if_pos c];simp only[zi];rw[zp (by rw[length_map];simp only[length_singleton];unfold zu;omega)];simp only[zx,qp,e4,map_append,List.map_cons,List.map_nil];rfl
  ·rw[if_neg c,if_neg c];simp only[zx,qp,e4,List.append_nil]
   rfl)
 rw[show (([]:List Int),(0:Int))=((zao (l.take 0)).map (qM d.members),((0:Nat):Int)) by rw[List.take_zero];rfl,hs,List.take_length];refine zP ?_;simp only[zdn,ha];rw[zl,if_neg (by omega)];rfl
theorem P356_some (hl:d.members.length<=1000) {l:List Node} (hne:l≠[]) (h30:l.length<=1000) (i:Int):P356 d i (some l)=some (setI ((zao l).map (qM d.members))):=by simp only[P356,S356,qy,zd6 hl h30 (some l) rfl,qp];rw[zb8 (by cases l with | nil=>exact absurd rfl hne | cons=>rfl)];simp only[Option.isNone_some,zd,zx,qp];exact zfP (by rw[length_map];exact le_trans (zb1 _) (by omega))
theorem zjA (hl:d.members.length<=1000) (ps:List Int) (hp:∀ x∈ps,∃ k:Nat,x=k∧k < d.members.length) (hn:ps.length<=1000):lpO (zdm d ps) (([]:List Int),(0:Int))=some (.inl (ps.filter (fun k=>decide (¬ sgn d.members k=0)),(ps.length:Int))):=by
 have hs:=zJ (B:=zdm d ps) (fun i=>((ps.take i).filter (fun k=>decide (¬ sgn d.members k=0)),(i:Int))) ps.length (fun i hi=>by
  have hx:=getElem?_eq_getElem hi;obtain ⟨k,hk,hkl⟩:=hp _ (List.getElem_mem hi);have hm:=getElem?_eq_getElem hkl;simp only[zdm];rw[zl,if_pos (by omega)];have e4:wi ((i:Int)+1)=((i+1:Nat):Int):=by rw[qL (by omega) (by omega)];omega
  have hb:((ps.take i).filter (fun k=>decide (¬ sgn d.members k=0))).length<=1000:=le_trans (length_filter_le _ _) (by rw[List.length_take];omega);have hsg:sgn d.members ps[i]=(d.members[k]).sign:=by unfold sgn;rw[hk,toNat_natCast,hm]
  simp only[zb,hx,zi];rw[show zj d.members ps[i]=some d.members[k] by rw[hk,zb,hm]];simp only[zi];rw[List.take_add_one,hx,List.filter_append,zl];by_cases c:(d.members[k]).sign=0
  ·rw[if_neg (by simpa using c)];simp only[zx,qp,e4,toList_some];rw[List.filter_cons_of_neg (by rw[hsg];simpa using c)];simp
  ·rw[if_pos c,zp (by simp only[length_singleton];unfold zu;omega)];simp only[zx,qp,e4,toList_some];rw[List.filter_cons_of_pos (by rw[hsg];simpa using c)]
   rfl)
 rw[show (([]:List Int),(0:Int))=((ps.take 0).filter (fun k=>decide (¬ sgn d.members k=0)),((0:Nat):Int)) by rw[List.take_zero];rfl,hs,List.take_length];refine zP ?_;simp only[zdm];rw[zl,if_neg (by omega)];rfl
theorem P356_none (hl:d.members.length<=1000) (i:Int):P356 d i none=some (setI (cntP2 d i)):=by simp only[P356,S356,qy,zd6 hl (l:=[]) (by simp) none rfl,qp];rw[zb8 rfl];have hpl:(partsOf d.members i).length<=1000:=le_trans (zaU _ _) hl;simp only[Option.isNone_none,zm,P47_eq hl,zi];rw[show (zao []).map (qM d.members)=([]:List Int) from rfl,zjA hl _ (fun x hx=>zb2 hx) hpl];simp only[qp,zx];exact zfP (le_trans (length_filter_le _ _) (by omega))
def zhm (d:Dim) (i:Nat):List Int:=match d.members[i]? with
 | some m=>if m.formula=⟨#[]⟩ then cntP2 d i else (zao (rdT m.formula).1).map (qM d.members)
 | none=>[]
def j8 (d:Dim) (i:Nat):List Int:=setI (zhm d i)
def zd7 (d:Dim) (i:Nat):Option Int:=match d.members[i]? with
 | some m=>if m.formula≠⟨#[]⟩∧(rdT m.formula).2.2≠0 then some (rdT m.formula).2.2 else if hasI (j8 d i) (-1)=true then some 5 else none
 | none=>none
def wt (d:Dim):List (List Int):=(List.range d.members.length).map (j8 d)
def zew (d:Dim) (i:Nat):Option Int:=if zev (wt d) i=some true then some 8 else none
def zaE (d:Dim):Int×Int :=
  match (List.range d.members.length).findSome? fun i=>(zd7 d i).map fun e=>((i:Int),e) with
  | some r=>r
  | none=>match (List.range d.members.length).findSome? fun i=>(zew d i).map fun e=>((i:Int),e) with
   | some r=>r
   | none=>(-1,0)
def qv (d:Dim):Int×Int:=if ¬ (qg d).2=0 then qg d else zaE d
theorem P355_eq {i:Nat} {m:Member} (h:d.members[i]? = some m):zj6 d (i:Int)=some (if m.formula=⟨#[]⟩ then (none,.nil) else (some (rdT m.formula).1,zn (rdT m.formula).2.2)):=by
 simp only[zj6,S355,zb,h,zi,P248_eq];rw[zl]
 split<;>rfl
theorem rawN_len (hl:d.members.length<=12) (i:Nat):(zhm d i).length<=30:=by
 unfold zhm;split
 ·split
  ·exact le_trans (length_filter_le _ _) (le_trans (zaU _ _) (by omega))
  ·rw[length_map];exact le_trans (zb1 _) (zhl _)
 ·simp
theorem zaI (hl:d.members.length<=12) (i:Nat):(j8 d i).length<=30:=le_trans (setI_len _) (rawN_len hl i)
theorem P356_need (hl:d.members.length<=12) {i:Nat} {m:Member} (h:d.members[i]? = some m) (hf:¬ (m.formula≠⟨#[]⟩∧(rdT m.formula).2.2≠0)) :
  P356 d (i:Int) (if m.formula=⟨#[]⟩ then none else some (rdT m.formula).1)=some (j8 d i):=by
 unfold j8 zhm;rw[h];simp only;by_cases c:m.formula=⟨#[]⟩
 ·rw[if_pos c,if_pos c,P356_none (by omega)]
 ·have h0:(rdT m.formula).2.2=0:=Classical.byContradiction fun e=>hf ⟨c,e⟩;have ok:=rdT_ok h0;have hne:(rdT m.formula).1≠[]:=fun e=>by have:=ok.pos;rw[e] at this;simp at this
  rw[if_neg c,if_neg c,P356_some (by omega) hne (le_trans (zhl _) (by omega))]
theorem memF_none {i:Nat} {m:Member} (h:d.members[i]? = some m) (hn:zd7 d i=none):¬ (m.formula≠⟨#[]⟩∧(rdT m.formula).2.2≠0)∧hasI (j8 d i) (-1)=false:=by
 unfold zd7 at hn;rw[h] at hn;simp only at hn;split at hn
 ·cases hn
 ·rename_i c;split at hn
  ·cases hn
  ·rename_i c2;exact ⟨c,Bool.eq_false_iff.2 c2⟩
theorem zfK (l:List Member) (s:ByteArray) : -1<=qM l s∧qM l s < l.length:=by
 unfold qM idxOf;split
 ·rename_i i hi;have:=(List.findIdx?_eq_some_iff_getElem.1 hi).1;omega
 ·omega
theorem zfk (hn:∀ i,i < d.members.length->zd7 d i=none):Rng (wt d):=by
 intro i k hk;unfold wt at hk ⊢;rw[length_map,length_range];by_cases hi:i < d.members.length
 ·have hx:=getElem?_eq_getElem hi;simp only[getD_eq_getElem?_getD,getElem?_map,getElem?_range hi,map_some,Option.getD_some] at hk;obtain ⟨h1,h2⟩:=memF_none hx (hn i hi);have h3:k ≠ -1:=fun e=>(by rw[e] at hk;rw[ziH.2 hk] at h2;cases h2);have hk2:k∈zhm d i:=(zam _).2 k |>.1 hk;unfold zhm at hk2;rw[hx] at hk2;simp only at hk2;split at hk2
  ·obtain ⟨k',rfl,hk'⟩:=zb2 (List.mem_filter.1 hk2).1;omega
  ·obtain ⟨s,_,rfl⟩:=List.mem_map.1 hk2;have:=zfK d.members s;omega
 ·simp only[getD_eq_getElem?_getD,getElem?_map,getElem?_eq_none (show (List.range d.members.length).length<=i by rw[length_range];omega),map_none,Option.getD_none] at hk;cases hk
theorem zfl {i:Nat} (hi:i < d.members.length):(wt d)[i]? = some (j8 d i):=by unfold wt;rw[getElem?_map,getElem?_range hi];rfl
theorem zht {i:Nat} {e:Int} (h:zd7 d i=some e):e≠0:=by
 unfold zd7 at h;split at h
 ·split at h
  ·rename_i c;cases h;exact c.2
  ·split at h
   ·cases h;decide
   ·cases h
 ·cases h
theorem P303_eq (hl:d.members.length<=12) (hr:Rng (wt d)) {i:Nat} (hi:i < d.members.length):P303 (wt d) (i:Int)=zev (wt d) i:=by
 unfold P303;rw[if_pos,toNat_natCast];refine ⟨hr,by omega,by unfold wt;rw[length_map,length_range];omega,by unfold wt;rw[length_map,length_range];omega,fun k => ?_⟩;unfold wt;simp only[getD_eq_getElem?_getD,getElem?_map];by_cases hk:k < d.members.length
 ·rw[getElem?_range hk];exact le_trans (zaI hl k) (by omega)
 ·rw[getElem?_eq_none (by rw[length_range];omega)];simp
theorem P340_eq (d:Dim):P340 d=some (if (qv d).2=0 then wt d else [],(qv d).1,zn (qv d).2):=by
 simp only[P340,S340,P15_eq,zi,zG];by_cases h0:(qg d).2=0
 ·have ok:=zgD.1 h0;obtain ⟨hl0,hl⟩:=ok.len;rw[show qv d=zaE d from if_neg (fun h=>h h0)];unfold zaE;rw[decide_eq_true h0,Bool.not_true,zd];have L1:=jN (B:=zfv zj6 P356 P357 d) (fun i=>((List.range i).map (j8 d),(i:Int))) d.members.length (fun i=>((zd7 d i).map fun e=>((i:Int),e)).map fun r=>(([]:List (List Int)),r.1,zn r.2)) (d:=(wt d,(d.members.length:Int))) (fun i hi hg=>by
   have hx:=getElem?_eq_getElem hi;simp only[zfv];rw[zl,if_pos (by omega),P355_eq hx];simp only[zi];have e4:wi ((i:Int)+1)=((i+1:Nat):Int):=by rw[qL (by omega) (by omega)];omega
   by_cases hf:(d.members[i]).formula≠⟨#[]⟩∧(rdT (d.members[i]).formula).2.2≠0
   ·have hm:zd7 d i=some (rdT (d.members[i]).formula).2.2:=by unfold zd7;rw[hx];simp only;rw[if_pos hf]
    rw[hm,if_neg hf.1];simp only[zG,decide_eq_false hf.2,Bool.not_false,zm,map_some];rfl
   ·have hn2:=P356_need hl hx hf;have hsame:∀ (k:Option (List Node)×Err->Option (LR (List (List Int)×Int) (List (List Int)×Int×Err))),k (if (d.members[i]).formula=⟨#[]⟩ then (none,.nil) else (some (rdT (d.members[i]).formula).1,zn (rdT (d.members[i]).formula).2.2))=k (if (d.members[i]).formula=⟨#[]⟩ then none else some (rdT (d.members[i]).formula).1,.nil):=by
     intro k;by_cases c:(d.members[i]).formula=⟨#[]⟩
     ·rw[if_pos c,if_pos c]
     ·have h1:(rdT (d.members[i]).formula).2.2=0:=Classical.byContradiction fun e=>hf ⟨c,e⟩;rw[if_neg c,if_neg c,h1];rfl
    have:=hsame (fun y3=>br (!(Err.isNil y3.2)) (jx (some (([]:List (List Int)),(i:Int),y3.2))) (bno (P356 d (i:Int) y3.1) fun y4=>bno (P357 y4 (-1:Int)) fun y5=>br y5 (jx (some (([]:List (List Int)),(i:Int),Err.no (5:Int)))) (ck (decide (List.length ((List.range i).map (j8 d))+List.length ([y4]:List (List Int))<=zu)) <| nxO (some ((List.range i).map (j8 d)++([y4]:List (List Int)),wi ((i:Int)+(1:Int)))))));simp only at this;rw[this];have hnl:=zaI hl i;simp only[qr,Bool.not_true,zd,hn2,zi,P357_eq _ _ (show (j8 d i).length<=9223372036854775807 by omega)];have hm:zd7 d i=if hasI (j8 d i) (-1)=true then some 5 else none:=by unfold zd7;rw[hx];simp only;rw[if_neg hf]
    rw[hm];by_cases c:hasI (j8 d i) (-1)=true
    ·rw[c];rfl
    ·rw[not_eq_true] at c;rw[c];simp only[zd,Bool.false_eq_true,if_false,map_none];rw[zp (by rw[length_map,length_range];simp only[length_singleton];unfold zu;omega),e4,List.range_succ,map_append]
     rfl) (fun _=>by
   simp only[zfv];rw[zl,if_neg (by omega)]
   rfl)
  have e0:(([]:List (List Int)),(0:Int))=((List.range 0).map (j8 d),((0:Nat):Int)):=rfl;rw[qy,e0,L1,qb];cases hs:(List.range d.members.length).findSome? (fun i=>(zd7 d i).map fun e=>((i:Int),e)) with
  | some r =>have hr:r.2≠0:=(by obtain ⟨i,_,hi⟩:=exists_of_findSome?_eq_some hs;obtain ⟨e,he,rfl⟩:=map_eq_some_iff.1 hi;exact zht he);simp only[map_some,jn_r,if_neg hr]
  | none =>
   have hnone:∀ i,i < d.members.length->zd7 d i=none:=fun i hi=>(by have:=List.findSome?_eq_none_iff.1 hs i (mem_range.2 hi);simpa using this);have hrng:=zfk hnone;simp only[map_none,qp];have L2:=jN (B:=zfu P303 d (wt d,(d.members.length:Int))) (fun i=>(i:Int)) d.members.length (fun i=>((zew d i).map fun e=>((i:Int),e)).map fun r=>(([]:List (List Int)),r.1,zn r.2)) (d:=((d.members.length:Nat):Int)) (fun i hi hg=>by
    simp only[zfu];have e4:wi ((i:Int)+1)=((i+1:Nat):Int):=by rw[qL (by omega) (by omega)];omega
    obtain ⟨b,hb⟩:=za6 hrng i;rw[zl,if_pos (by omega),P303_eq hl hrng hi,hb];simp only[zi];unfold zew;rw[hb];cases b with
    | true=>rfl
    | false =>
     simp only[zd,e4,Option.some.injEq,Bool.false_eq_true,if_false,map_none]
     rfl) (fun _=>by
    simp only[zfu];rw[zl,if_neg (by omega)]
    rfl)
   rw[qy,show (0:Int)=((0:Nat):Int) from rfl,L2,qb];cases hs2:(List.range d.members.length).findSome? (fun i=>(zew d i).map fun e=>((i:Int),e)) with
   | some r =>
    have hr:r.2≠0:=by
     obtain ⟨i,_,hi⟩:=exists_of_findSome?_eq_some hs2;obtain ⟨e,he,rfl⟩:=map_eq_some_iff.1 hi;unfold zew at he;split at he
     ·cases he;show (8:Int)≠0;decide
     ·cases he
    simp only[map_some,jn_r];rw[if_neg (show ¬ r.2=((0:Nat):Int) from hr)]
   | none=>rfl
 ·rw[show qv d=qg d from if_pos h0,decide_eq_false h0,Bool.not_false,zm,if_neg h0]
end
end
section
theorem P358_eq {done:List Bool} {k:Int} (h0:0<=k) (h1:k < done.length):P358 k done=some (!done.getD k.toNat false):=by
 obtain ⟨m,rfl⟩:∃ m:Nat,k=m:=⟨k.toNat,by omega⟩;have hm:m < done.length:=by omega
 simp only[P358,S358,zb,getElem?_eq_getElem hm,zi,toNat_natCast,getD_eq_getElem?_getD,Option.getD_some]
theorem P345_eq {l:List Int} {done:List Bool} (h:∀ k∈l,0<=k∧k < done.length) (hl:l.length<=9223372036854775807):yt l done=some (l.any fun k => !done.getD k.toNat false):=by
 have:zfE l done=some (idxOf (fun k => !done.getD k.toNat false) l):=by
  refine jT _ l (fun i y hy => ?_) (by simp[zaz]);have hi:=(List.getElem?_eq_some_iff.1 hy).1;obtain ⟨h0,h1⟩:=h y (List.mem_of_getElem? hy);have e:(((i:Nat):Int) < ((l.length:Nat):Int)):=by omega
  simp only[zaz,zb,hy,zi,e,decide_true,zm,P358_eq h0 h1];rw[qL (by omega) (by omega)];cases done.getD y.toNat false<;>rfl
 simp only[yt,zi5,this,zi];congr 1;exact zdh _ _
def dnL (m:Nat) (out:List Nat):List Bool:=(List.range m).map fun j=>out.contains j
theorem ze2 (m:Nat) (out:List Nat):(dnL m out).length=m:=by simp[dnL]
theorem zhK {m j:Nat} {out:List Nat} (h:j < m):(dnL m out).getD j false=out.contains j:=by unfold dnL;simp only[getD_eq_getElem?_getD,getElem?_map,getElem?_range h];rfl
theorem dnL_set {m i:Nat} {out:List Nat} (h:i < m):(dnL m out).set i true=dnL m (out++[i]):=by
 apply List.ext_getElem?;intro j;unfold dnL;rw[List.getElem?_set,getElem?_map,getElem?_map];by_cases hj:j < m
 ·rw[getElem?_range hj];by_cases e:i=j
  ·subst e;simp[h]
  ·rw[if_neg e];have e':¬ j=i:=fun h=>e h.symm;simp[e']
 ·rw[getElem?_eq_none (by rw[length_range];omega)];rw[if_neg (by omega)];rfl
def jE (l:List Nat):List Int:=l.map fun (k:Nat)=>(k:Int)
theorem nd_done {n:List (List Int)} (hr:Rng n) {i:Nat} (out:List Nat):(!(n.getD i []).any fun k => !(dnL n.length out).getD k.toNat false)=(nd n i).all fun k=>out.contains k:=by
 unfold nd;rw[List.all_map,List.any_eq_not_all_not,not_not];simp only[not_not];rw[Bool.eq_iff_iff,List.all_eq_true,List.all_eq_true];constructor
 ·intro h k hk;have h1:=hr i k hk;have h2:=h k hk;rw[zhK (by omega)] at h2;exact h2
 ·intro h k hk;have h1:=hr i k hk;have h2:=h k hk;rw[zhK (by omega)];exact h2
section
variable {n:List (List Int)} (hr:Rng n) (hn:n.length<=100000) (hw:∀ i,(n.getD i []).length<=100000)
include hr hn hw
theorem zjJ {out:List Nat} (ho:out.length<=100000) {i:Nat} (hi:i < n.length) :
  zdq yt n (jE out,(i:Int),dnL n.length out)=if (!out.contains i && (nd n i).all fun k=>out.contains k)=true then some (.dn (jE (out++[i]),(i:Int),dnL n.length (out++[i]))) else some (.nx (jE out,((i+1:Nat):Int),dnL n.length out)):=by
 have hg:n[i]? = some (n.getD i []):=by rw[getD_eq_getElem?_getD,getElem?_eq_getElem hi];rfl
 have hd:(dnL n.length out)[i]? = some (out.contains i):=by
  have h1:=zhK (out:=out) hi;have h2:i < (dnL n.length out).length:=by rw[ze2];exact hi
  rw[getElem?_eq_getElem h2];rw[getD_eq_getElem?_getD,getElem?_eq_getElem h2] at h1;exact congrArg some h1
 have e4:wi ((i:Int)+1)=((i+1:Nat):Int):=by rw[qL (by omega) (by omega)];omega
 simp only[zdq];rw[zl,if_pos (by omega),zp ⟨by omega,by rw[ze2];omega⟩,toNat_natCast,hd];simp only[zi];cases hc:out.contains i with
 | true =>simp only[Bool.not_true,zd,zx,qp,e4,Bool.false_and,Bool.false_eq_true,if_false];rfl
 | false =>
  rw[Bool.not_false,zm,zb,hg];simp only[zi];rw[P345_eq (fun k hk=>by rw[ze2];exact hr i k hk) (by have:=hw i;omega)];simp only[zi,zx,qp,nd_done hr,Bool.true_and];by_cases hall:((nd n i).all fun k=>out.contains k)=true
  ·rw[hall,zm,if_pos rfl,zp ⟨by omega,by rw[ze2];omega⟩,zp (by unfold jE;rw[length_map];simp only[length_singleton];unfold zu;omega),dnL_set hi];unfold jE;rw[map_append];rfl
  ·rw[not_eq_true] at hall;rw[hall,zd,e4];rfl
theorem zec {out:List Nat} (ho:out.length<=100000):∀ (m k:Nat),k+m=n.length->lpO (zdq yt n) (jE out,(k:Int),dnL n.length out) =
  some (.inl (match (List.range' k m).find? fun i => !out.contains i && (nd n i).all fun k=>out.contains k with | some i=>(jE (out++[i]),(i:Int),dnL n.length (out++[i])) | none=>(jE out,(n.length:Int),dnL n.length out)))
 | 0,k,hk=>by
  obtain rfl:k=n.length:=by omega
  refine zP ?_;simp only[zdq];rw[zl,if_neg (by omega)];rfl
 | m+1,k,hk=>by
  have hs:=zjJ hr hn hw ho (i:=k) (by omega);rw[List.range'_succ,List.find?_cons];by_cases c:(!out.contains k && (nd n k).all fun k=>out.contains k)=true
  ·rw[if_pos c] at hs;rw[zP hs];simp only[c]
  ·rw[if_neg c] at hs;rw[not_eq_true] at c;rw[zaN hs,zec ho m (k+1) (by omega)];simp only[c]
theorem zd2 (ha:Acyc n):∀ (f:Nat) (out:List Nat),yx n out->out.length+f=n.length->lpO (zdp yt n) (jE out,dnL n.length out)=some (.inl (jE (jv n f out),dnL n.length (jv n f out)))
 | 0,out,ho,hl=>by
  refine zP ?_;simp only[zdp];rw[zl,if_neg (by unfold jE;rw[length_map];omega)];rfl
 | f+1,out,ho,hl=>by
  obtain ⟨i,hi⟩:=zd5 hr ha ho (by omega);have hin:=zec hr hn hw (out:=out) (by omega) n.length 0 (by omega);rw[← List.range_eq_range'] at hin;have hi':(List.range n.length).find? (fun i => !out.contains i && (nd n i).all fun k=>out.contains k)=some i:=hi;rw[hi'] at hin;have hst:zdp yt n (jE out,dnL n.length out)=some (.nx (jE (out++[i]),dnL n.length (out++[i]))):=(by simp only[zdp];rw[zl,if_pos (by unfold jE;rw[length_map];omega),qy,show (0:Int)=((0:Nat):Int) from rfl,hin];rfl);rw[zaN hst,zd2 ha f _ (ho.add hi) (by simp;omega)];simp only[jv,hi]
theorem P341_eq (ha:Acyc n):P341 n=some (jE (qm n)):=by
 simp only[P341,S341];rw[zp ⟨by omega,Int.le_refl _,by unfold zu;omega⟩,toNat_natCast,qy];have h:=zd2 hr hn hw ha n.length [] (.nil n) (by simp);have e:dnL n.length []=List.replicate n.length false:=by
  unfold dnL;apply List.ext_getElem?;intro j;rw[getElem?_map,List.getElem?_replicate];by_cases hj:j < n.length
  ·rw[getElem?_range hj,if_pos hj];rfl
  ·rw[getElem?_eq_none (by rw[length_range];omega),if_neg hj];rfl
 rw[e] at h;rw[show (([]:List Int),List.replicate n.length false)=(jE [],List.replicate n.length false) from rfl,h];rfl
end
end
section
theorem zcc (d:Dim):(wt d).length=d.members.length:=by unfold wt;rw[length_map,length_range]
theorem zjw {d:Dim} (h:(qv d).2=0):d.members.length<=12∧Rng (wt d)∧Acyc (wt d):=by
 have h0:(qg d).2=0:=Classical.byContradiction fun h1=>(by rw[show qv d=qg d from if_pos h1] at h;exact h1 h);have ok:=zgD.1 h0;obtain ⟨hl0,hl⟩:=ok.len;rw[show qv d=zaE d from if_neg (fun h=>h h0)] at h;unfold zaE at h;cases hs:(List.range d.members.length).findSome? (fun i=>(zd7 d i).map fun e=>((i:Int),e)) with
 | some r =>rw[hs] at h;obtain ⟨i,_,hi⟩:=exists_of_findSome?_eq_some hs;obtain ⟨e,he,rfl⟩:=map_eq_some_iff.1 hi;exact absurd h (zht he)
 | none =>
  rw[hs] at h;have hnone:∀ i,i < d.members.length->zd7 d i=none:=fun i hi=>(by have:=List.findSome?_eq_none_iff.1 hs i (mem_range.2 hi);simpa using this);have hrng:=zfk hnone;refine ⟨hl,hrng,fun i hi => ?_⟩;rw[zcc] at hi;obtain ⟨b,hb⟩:=za6 hrng i;cases b with
  | false=>exact zcq hrng hb
  | true =>
   cases hs2:(List.range d.members.length).findSome? (fun i=>(zew d i).map fun e=>((i:Int),e)) with
   | some r =>
    rw[hs2] at h;obtain ⟨j,_,hj⟩:=exists_of_findSome?_eq_some hs2;obtain ⟨e,he,rfl⟩:=map_eq_some_iff.1 hj;unfold zew at he;split at he
    ·cases he;have h8:(8:Int)=0:=h;omega
    ·cases he
   | none =>have:=List.findSome?_eq_none_iff.1 hs2 i (mem_range.2 hi);unfold zew at this;rw[if_pos hb] at this;cases this
theorem P315_eq (d:Dim):P315 d=some ((qv d).1,zn (qv d).2):=by simp only[P315,S315,P340_eq,zi]
end
end Ab
