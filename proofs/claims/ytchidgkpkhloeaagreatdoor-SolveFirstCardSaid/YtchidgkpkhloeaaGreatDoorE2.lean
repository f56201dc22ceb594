import Derived.Test.YtchidgkpkhloeaaGreatDoorHF
import Derived.Test.YtchidgkpkhloeaaGreatDoorF2
import Derived.Test.YtchidgkpkhloeaaGreatDoorH9
import Derived.Test.YtchidgkpkhloeaaGreatDoorE1
import Derived.Test.YtchidgkpkhloeaaGreatDoorC7
import Derived.Test.YtchidgkpkhloeaaGreatDoorC9
section
namespace Ab
open Go
set_option linter.unusedVariables false
set_option linter.unusedSimpArgs false
theorem rdT_ex (s:ByteArray):∃ (l:List Node) (n e:Int),P247 s=some (l,n,e)∧P248 s=some (l,n,errOf e)∧l.length≤30∧(e=0→FormOk l)∧0≤e:=by
 unfold P247 P248
 by_cases hs:100 < s.size
 ·rw [if_pos hs,if_pos hs]
  exact ⟨[],0,4,rfl,rfl,by simp,fun e=>by omega,by omega⟩
 ·rw [if_neg hs,if_neg hs]
  obtain ⟨r,e⟩:=readS_some (s:=s) (by omega)
  rw [e,show rd s 404 (.row true) 0 []=some r from e]
  cases r with
  | bad b=>exact ⟨[],b,2,rfl,rfl,by simp,fun e=>by omega,by omega⟩
  | ok i b l =>
   simp only
   by_cases hb:b < s.size
   ·rw [if_pos hb,if_pos hb]
    exact ⟨[],b,2,rfl,rfl,by simp,fun e=>by omega,by omega⟩
   ·rw [if_neg hb,if_neg hb,P240_eq,P241_eq]
    simp only [bno_s]
    by_cases h0:formE l=0
    ·have ok:=form_ok.1 h0
     refine ⟨l,0,0, ?_, ?_,ok.most,fun _=>ok,Int.le_refl _⟩
     ·rw [h0];rfl
     ·rw [h0];rfl
    ·have hp:0≤formE l:=by
      unfold formE
      split
      ·omega
      split
      ·omega
      split
      ·rename_i e he
       obtain ⟨i,_,hi⟩:=List.exists_of_findSome?_eq_some he
       unfold nodeErr at hi
       split at hi
       ·split at hi
        ·cases hi
        ·cases hi
         unfold nodeE
         repeat' split
         all_goals omega
       ·cases hi
      ·split
       ·rename_i e he
        obtain ⟨i,_,hi⟩:=List.exists_of_findSome?_eq_some he
        unfold useErr at hi
        split at hi
        ·cases hi
        ·cases hi;omega
       ·omega
     refine ⟨[],0,formE l, ?_, ?_,by simp,fun e=>absurd e h0,hp⟩
     ·rw [if_neg h0]
     ·rw [errOf_nil,if_neg (by simpa using h0)]
noncomputable def rdT (s:ByteArray):List Node×Int×Int:=(P247 s).getD ([],0,0)
theorem P247_eq (s:ByteArray):P247 s=some (rdT s):=by
 obtain ⟨l,n,e,h1,_⟩:=rdT_ex s
 unfold rdT
 rw [h1]
 rfl
theorem P248_eq (s:ByteArray):P248 s=some ((rdT s).1,(rdT s).2.1,errOf (rdT s).2.2):=by
 obtain ⟨l,n,e,h1,h2,_⟩:=rdT_ex s
 unfold rdT
 rw [h1,h2]
 rfl
theorem rdT_ok {s:ByteArray} (h:(rdT s).2.2=0):FormOk (rdT s).1:=by
 obtain ⟨l,n,e,h1,_,_,h4,_⟩:=rdT_ex s
 unfold rdT at h ⊢
 rw [h1] at h ⊢
 exact h4 h
theorem rdT_len (s:ByteArray):(rdT s).1.length≤30:=by
 obtain ⟨l,n,e,h1,_,h3,_⟩:=rdT_ex s
 unfold rdT
 rw [h1]
 exact h3
def hasI (l:List Int) (n:Int):Bool:=l.any fun y=>decide (y=n)
theorem hasI_mem {l:List Int} {n:Int}:hasI l n=true↔n∈l:=by simp [hasI]
theorem P362_eq (l:List Int) (n:Int) (h:l.length≤9223372036854775807):P362 l n=some (idxOf (fun y=>decide (y=n)) l):=by
 refine find_loop _ l (fun i y hy => ?_) (by simp [S362_L1])
 have hi:=(List.getElem?_eq_some_iff.1 hy).1
 have e:(((i:Nat):Int) < ((l.length:Nat):Int)):=by omega
 simp only [S362_L1,lookI_nat,hy,bno_s,e,decide_true,br_true]
 rw [wiid (by omega) (by omega)]
 by_cases c:y=n
 ·simp [c]
 ·have c':¬ n=y:=fun e=>c e.symm
  simp [c,c']
theorem P357_eq (l:List Int) (n:Int) (h:l.length≤9223372036854775807):P357 l n=some (hasI l n):=by
 simp only [P357,S357,P362_eq l n h,bno_s]
 congr 1
 exact any_idx _ _
theorem compI_len (l:List Int):(compI l).length≤l.length:=by
 unfold compI Lib.compact Lib.compactUpTo
 rw [List.length_map]
 exact Nat.le_trans (List.length_filter_le _ _) (by simp)
theorem setI_len (l:List Int):(setI l).length≤l.length:=by
 have:=compI_len (sortI l)
 rw [sortI_length] at this
 exact this
theorem sort_comp {l:List Int} (h:l.length≤1000000):(bno (P213 l) fun y13=>ck (decide (List.length y13=List.length l)) <| bno (P302 y13) fun y14=>some y14)=some (setI l):=by
 unfold P213 P302
 rw [ck_pos (by unfold roomA;omega)]
 simp only [bno_s]
 rw [ck_pos (sortI_length l),ck_pos (by rw [sortI_length];unfold roomA;omega)]
 rfl
theorem ck_true' {α:Type} {b:Bool} (h:b=true) (x:Option α):ck b x=x:=by rw [h];rfl
section
variable {d:Dim}
def cntP2 (d:Dim) (i:Int):List Int:=(partsOf d.members i).filter fun k=>decide (¬ sgn d.members k=0)
theorem parts_in {i x:Int} (h:x∈partsOf d.members i):∃ k:Nat,x=k∧k < d.members.length:=by
 obtain ⟨k,e,hk,_⟩:=mem_idxs.1 h
 exact ⟨k,e,hk⟩
theorem refL_take_succ {l:List Node} {i:Nat} {x:Node} (h:l[i]? = some x):refL (l.take (i+1))=refL (l.take i)++(if x.op=2 then [x.name] else []):=by
 rw [List.take_add_one,h,refL_app]
 congr 1
 unfold refL
 by_cases c:x.op=2<;>simp [c]
theorem needs_refs (hl:d.members.length≤1000) {l:List Node} (h30:l.length≤1000) (a2:Option (List Node)) (ha:Option.getD a2 []=l):lpO (S356_L1 P37 d a2) (([]:List Int),(0:Int))=some (.inl ((refL l).map (whereM d.members),(l.length:Int))):=by
 have hs:=seq_loop (B:=S356_L1 P37 d a2) (fun i=>((refL (l.take i)).map (whereM d.members),(i:Int))) l.length (fun i hi=>by
  have hx:=List.getElem?_eq_getElem hi
  simp only [S356_L1,ha]
  rw [br_dec,if_pos (by omega)]
  simp only [lookI_nat,hx,bno_s]
  have e4:wi ((i:Int)+1)=((i+1:Nat):Int):=by rw [wiid (by omega) (by omega)];omega
  rw [refL_take_succ hx,br_dec]
  have hb:(refL (l.take i)).length≤1000:=Nat.le_trans (refL_len _) (by rw [List.length_take];omega)
  by_cases c:l[i].op=2
  ·rw [if_pos c,P37_eq _ _ (by omega),if_pos c]
   simp only [bno_s]
   rw [ck_pos (by rw [List.length_map];simp only [List.length_singleton];unfold roomA;omega)]
   simp only [inlO_s,jn_l,e4,List.map_append,List.map_cons,List.map_nil]
   rfl
  ·rw [if_neg c,if_neg c]
   simp only [inlO_s,jn_l,e4,List.append_nil]
   rfl)
 rw [show (([]:List Int),(0:Int))=((refL (l.take 0)).map (whereM d.members),((0:Nat):Int)) by rw [List.take_zero];rfl,hs,List.take_length]
 refine lpO_dn ?_
 simp only [S356_L1,ha]
 rw [br_dec,if_neg (by omega)]
 rfl
theorem P356_some (hl:d.members.length≤1000) {l:List Node} (hne:l≠[]) (h30:l.length≤1000) (i:Int):P356 d i (some l)=some (setI ((refL l).map (whereM d.members))):=by
 simp only [P356,S356,lp_eq,needs_refs hl h30 (some l) rfl,jn_l]
 rw [ck_true' (by cases l with | nil=>exact absurd rfl hne | cons=>rfl)]
 simp only [Option.isNone_some,br_false,inlO_s,jn_l]
 exact sort_comp (by rw [List.length_map];exact Nat.le_trans (refL_len _) (by omega))
theorem parts_loop (hl:d.members.length≤1000) (ps:List Int) (hp:∀ x∈ps,∃ k:Nat,x=k∧k < d.members.length) (hn:ps.length≤1000):lpO (S356_L2 d ps) (([]:List Int),(0:Int))=some (.inl (ps.filter (fun k=>decide (¬ sgn d.members k=0)),(ps.length:Int))):=by
 have hs:=seq_loop (B:=S356_L2 d ps) (fun i=>((ps.take i).filter (fun k=>decide (¬ sgn d.members k=0)),(i:Int))) ps.length (fun i hi=>by
  have hx:=List.getElem?_eq_getElem hi
  obtain ⟨k,hk,hkl⟩:=hp _ (List.getElem_mem hi)
  have hm:=List.getElem?_eq_getElem hkl
  simp only [S356_L2]
  rw [br_dec,if_pos (by omega)]
  have e4:wi ((i:Int)+1)=((i+1:Nat):Int):=by rw [wiid (by omega) (by omega)];omega
  have hb:((ps.take i).filter (fun k=>decide (¬ sgn d.members k=0))).length≤1000:=Nat.le_trans (List.length_filter_le _ _) (by rw [List.length_take];omega)
  have hsg:sgn d.members ps[i]=(d.members[k]).sign:=by unfold sgn;rw [hk,Int.toNat_natCast,hm]
  simp only [lookI_nat,hx,bno_s]
  rw [show lookI d.members ps[i]=some d.members[k] by rw [hk,lookI_nat,hm]]
  simp only [bno_s]
  rw [List.take_add_one,hx,List.filter_append,br_dec]
  by_cases c:(d.members[k]).sign=0
  ·rw [if_neg (by simpa using c)]
   simp only [inlO_s,jn_l,e4,Option.toList_some]
   rw [List.filter_cons_of_neg (by rw [hsg];simpa using c)]
   simp
  ·rw [if_pos c,ck_pos (by simp only [List.length_singleton];unfold roomA;omega)]
   simp only [inlO_s,jn_l,e4,Option.toList_some]
   rw [List.filter_cons_of_pos (by rw [hsg];simpa using c)]
   rfl)
 rw [show (([]:List Int),(0:Int))=((ps.take 0).filter (fun k=>decide (¬ sgn d.members k=0)),((0:Nat):Int)) by rw [List.take_zero];rfl,hs,List.take_length]
 refine lpO_dn ?_
 simp only [S356_L2]
 rw [br_dec,if_neg (by omega)]
 rfl
theorem P356_none (hl:d.members.length≤1000) (i:Int):P356 d i none=some (setI (cntP2 d i)):=by
 simp only [P356,S356,lp_eq,needs_refs hl (l:=[]) (by simp) none rfl,jn_l]
 rw [ck_true' rfl]
 have hpl:(partsOf d.members i).length≤1000:=Nat.le_trans (idxs_len _ _) hl
 simp only [Option.isNone_none,br_true,P47_eq hl,bno_s]
 rw [show (refL []).map (whereM d.members)=([]:List Int) from rfl,parts_loop hl _ (fun x hx=>parts_in hx) hpl]
 simp only [jn_l,inlO_s]
 exact sort_comp (Nat.le_trans (List.length_filter_le _ _) (by omega))
noncomputable def rawN (d:Dim) (i:Nat):List Int:=match d.members[i]? with
 | some m=>if m.formula=⟨#[]⟩ then cntP2 d i else (refL (rdT m.formula).1).map (whereM d.members)
 | none=>[]
noncomputable def needN (d:Dim) (i:Nat):List Int:=setI (rawN d i)
noncomputable def memF (d:Dim) (i:Nat):Option Int:=match d.members[i]? with
 | some m=>if m.formula≠⟨#[]⟩∧(rdT m.formula).2.2≠0 then some (rdT m.formula).2.2 else if hasI (needN d i) (-1)=true then some 5 else none
 | none=>none
noncomputable def allN (d:Dim):List (List Int):=(List.range d.members.length).map (needN d)
noncomputable def ringF (d:Dim) (i:Nat):Option Int:=if selfN (allN d) i=some true then some 8 else none
noncomputable def rulesG (d:Dim):Int×Int :=
  match (List.range d.members.length).findSome? fun i=>(memF d i).map fun e=>((i:Int),e) with
  | some r=>r
  | none=>match (List.range d.members.length).findSome? fun i=>(ringF d i).map fun e=>((i:Int),e) with
   | some r=>r
   | none=>(-1,0)
noncomputable def rulesE (d:Dim):Int×Int:=if ¬ (dimErr d).2=0 then dimErr d else rulesG d
theorem P355_eq {i:Nat} {m:Member} (h:d.members[i]? = some m):P355 d (i:Int)=some (if m.formula=⟨#[]⟩ then (none,.nil) else (some (rdT m.formula).1,errOf (rdT m.formula).2.2)):=by
 simp only [P355,S355,lookI_nat,h,bno_s,P248_eq]
 rw [br_dec]
 split<;>rfl
theorem rawN_len (hl:d.members.length≤12) (i:Nat):(rawN d i).length≤30:=by
 unfold rawN
 split
 ·split
  ·exact Nat.le_trans (List.length_filter_le _ _) (Nat.le_trans (idxs_len _ _) (by omega))
  ·rw [List.length_map]
   exact Nat.le_trans (refL_len _) (rdT_len _)
 ·simp
theorem needN_len (hl:d.members.length≤12) (i:Nat):(needN d i).length≤30:=Nat.le_trans (setI_len _) (rawN_len hl i)
theorem P356_need (hl:d.members.length≤12) {i:Nat} {m:Member} (h:d.members[i]? = some m) (hf:¬ (m.formula≠⟨#[]⟩∧(rdT m.formula).2.2≠0)) :
  P356 d (i:Int) (if m.formula=⟨#[]⟩ then none else some (rdT m.formula).1)=some (needN d i):=by
 unfold needN rawN
 rw [h]
 simp only
 by_cases c:m.formula=⟨#[]⟩
 ·rw [if_pos c,if_pos c,P356_none (by omega)]
 ·have h0:(rdT m.formula).2.2=0:=Classical.byContradiction fun e=>hf ⟨c,e⟩
  have ok:=rdT_ok h0
  have hne:(rdT m.formula).1≠[]:=fun e=>by have:=ok.pos;rw [e] at this;simp at this
  rw [if_neg c,if_neg c,P356_some (by omega) hne (Nat.le_trans (rdT_len _) (by omega))]
theorem memF_none {i:Nat} {m:Member} (h:d.members[i]? = some m) (hn:memF d i=none):¬ (m.formula≠⟨#[]⟩∧(rdT m.formula).2.2≠0)∧hasI (needN d i) (-1)=false:=by
 unfold memF at hn
 rw [h] at hn
 simp only at hn
 split at hn
 ·cases hn
 ·rename_i c
  split at hn
  ·cases hn
  ·rename_i c2
   exact ⟨c,Bool.eq_false_iff.2 c2⟩
theorem whereM_range (l:List Member) (s:ByteArray) : -1≤whereM l s∧whereM l s < l.length:=by
 unfold whereM idxOf
 split
 ·rename_i i hi
  have:=(List.findIdx?_eq_some_iff_getElem.1 hi).1
  omega
 ·omega
theorem allN_rng (hn:∀ i,i < d.members.length→memF d i=none):Rng (allN d):=by
 intro i k hk
 unfold allN at hk ⊢
 rw [List.length_map,List.length_range]
 by_cases hi:i < d.members.length
 ·have hx:=List.getElem?_eq_getElem hi
  simp only [List.getD_eq_getElem?_getD,List.getElem?_map,List.getElem?_range hi,Option.map_some,Option.getD_some] at hk
  obtain ⟨h1,h2⟩:=memF_none hx (hn i hi)
  have h3:k ≠ -1:=fun e=>by
   rw [e] at hk
   rw [hasI_mem.2 hk] at h2
   cases h2
  have hk2:k∈rawN d i:=(setI_ok _).2 k |>.1 hk
  unfold rawN at hk2
  rw [hx] at hk2
  simp only at hk2
  split at hk2
  ·obtain ⟨k',rfl,hk'⟩:=parts_in (List.mem_filter.1 hk2).1
   omega
  ·obtain ⟨s,_,rfl⟩:=List.mem_map.1 hk2
   have:=whereM_range d.members s
   omega
 ·simp only [List.getD_eq_getElem?_getD,List.getElem?_map,List.getElem?_eq_none (show (List.range d.members.length).length≤i by rw [List.length_range];omega),Option.map_none,Option.getD_none] at hk
  cases hk
theorem allN_get {i:Nat} (hi:i < d.members.length):(allN d)[i]? = some (needN d i):=by
 unfold allN
 rw [List.getElem?_map,List.getElem?_range hi]
 rfl
theorem memF_ne {i:Nat} {e:Int} (h:memF d i=some e):e≠0:=by
 unfold memF at h
 split at h
 ·split at h
  ·rename_i c
   cases h
   exact c.2
  ·split at h
   ·cases h;decide
   ·cases h
 ·cases h
theorem P303_eq (hl:d.members.length≤12) (hr:Rng (allN d)) {i:Nat} (hi:i < d.members.length):P303 (allN d) (i:Int)=selfN (allN d) i:=by
 unfold P303
 rw [if_pos,Int.toNat_natCast]
 refine ⟨hr,by omega,by unfold allN;rw [List.length_map,List.length_range];omega,by unfold allN;rw [List.length_map,List.length_range];omega,fun k => ?_⟩
 unfold allN
 simp only [List.getD_eq_getElem?_getD,List.getElem?_map]
 by_cases hk:k < d.members.length
 ·rw [List.getElem?_range hk]
  exact Nat.le_trans (needN_len hl k) (by omega)
 ·rw [List.getElem?_eq_none (by rw [List.length_range];omega)]
  simp
theorem P340_eq (d:Dim):P340 d=some (if (rulesE d).2=0 then allN d else [],(rulesE d).1,errOf (rulesE d).2):=by
 simp only [P340,S340,P15_eq,bno_s,errOf_nil]
 by_cases h0:(dimErr d).2=0
 ·have ok:=dim_ok.1 h0
  obtain ⟨hl0,hl⟩:=ok.len
  rw [show rulesE d=rulesG d from if_neg (fun h=>h h0)]
  unfold rulesG
  rw [decide_eq_true h0,Bool.not_true,br_false]
  have L1:=stop_loop (B:=S340_L1 P355 P356 P357 d) (fun i=>((List.range i).map (needN d),(i:Int))) d.members.length (fun i=>((memF d i).map fun e=>((i:Int),e)).map fun r=>(([]:List (List Int)),r.1,errOf r.2)) (d:=(allN d,(d.members.length:Int))) (fun i hi hg=>by
   have hx:=List.getElem?_eq_getElem hi
   simp only [S340_L1]
   rw [br_dec,if_pos (by omega),P355_eq hx]
   simp only [bno_s]
   have e4:wi ((i:Int)+1)=((i+1:Nat):Int):=by rw [wiid (by omega) (by omega)];omega
   by_cases hf:(d.members[i]).formula≠⟨#[]⟩∧(rdT (d.members[i]).formula).2.2≠0
   ·have hm:memF d i=some (rdT (d.members[i]).formula).2.2:=by unfold memF;rw [hx];simp only;rw [if_pos hf]
    rw [hm,if_neg hf.1]
    simp only [errOf_nil,decide_eq_false hf.2,Bool.not_false,br_true,Option.map_some]
    rfl
   ·have hn2:=P356_need hl hx hf
    have hsame:∀ (k:Option (List Node)×Err→Option (LR (List (List Int)×Int) (List (List Int)×Int×Err))),k (if (d.members[i]).formula=⟨#[]⟩ then (none,.nil) else (some (rdT (d.members[i]).formula).1,errOf (rdT (d.members[i]).formula).2.2))=k (if (d.members[i]).formula=⟨#[]⟩ then none else some (rdT (d.members[i]).formula).1,.nil):=by
     intro k
     by_cases c:(d.members[i]).formula=⟨#[]⟩
     ·rw [if_pos c,if_pos c]
     ·have h1:(rdT (d.members[i]).formula).2.2=0:=Classical.byContradiction fun e=>hf ⟨c,e⟩
      rw [if_neg c,if_neg c,h1]
      rfl
    have:=hsame (fun y3=>br (!(Err.isNil y3.2)) (finO (some (([]:List (List Int)),(i:Int),y3.2))) (bno (P356 d (i:Int) y3.1) fun y4=>bno (P357 y4 (-1:Int)) fun y5=>br y5 (finO (some (([]:List (List Int)),(i:Int),Err.no (5:Int)))) (ck (decide (List.length ((List.range i).map (needN d))+List.length ([y4]:List (List Int))≤roomA)) <| nxO (some ((List.range i).map (needN d)++([y4]:List (List Int)),wi ((i:Int)+(1:Int)))))))
    simp only at this
    rw [this]
    have hnl:=needN_len hl i
    simp only [nil_isNil,Bool.not_true,br_false,hn2,bno_s,P357_eq _ _ (show (needN d i).length≤9223372036854775807 by omega)]
    have hm:memF d i=if hasI (needN d i) (-1)=true then some 5 else none:=by unfold memF;rw [hx];simp only;rw [if_neg hf]
    rw [hm]
    by_cases c:hasI (needN d i) (-1)=true
    ·rw [c]
     rfl
    ·rw [Bool.not_eq_true] at c
     rw [c]
     simp only [br_false,Bool.false_eq_true,if_false,Option.map_none]
     rw [ck_pos (by rw [List.length_map,List.length_range];simp only [List.length_singleton];unfold roomA;omega),e4,List.range_succ,List.map_append]
     rfl) (fun _=>by
   simp only [S340_L1]
   rw [br_dec,if_neg (by omega)]
   rfl)
  have e0:(([]:List (List Int)),(0:Int))=((List.range 0).map (needN d),((0:Nat):Int)):=rfl
  rw [lp_eq,e0,L1,findSome_map]
  cases hs:(List.range d.members.length).findSome? (fun i=>(memF d i).map fun e=>((i:Int),e)) with
  | some r =>
   have hr:r.2≠0:=by
    obtain ⟨i,_,hi⟩:=List.exists_of_findSome?_eq_some hs
    obtain ⟨e,he,rfl⟩:=Option.map_eq_some_iff.1 hi
    exact memF_ne he
   simp only [Option.map_some,jn_r,if_neg hr]
  | none =>
   have hnone:∀ i,i < d.members.length→memF d i=none:=fun i hi=>by
    have:=List.findSome?_eq_none_iff.1 hs i (List.mem_range.2 hi)
    simpa using this
   have hrng:=allN_rng hnone
   simp only [Option.map_none,jn_l]
   have L2:=stop_loop (B:=S340_L2 P303 d (allN d,(d.members.length:Int))) (fun i=>(i:Int)) d.members.length (fun i=>((ringF d i).map fun e=>((i:Int),e)).map fun r=>(([]:List (List Int)),r.1,errOf r.2)) (d:=((d.members.length:Nat):Int)) (fun i hi hg=>by
    simp only [S340_L2]
    have e4:wi ((i:Int)+1)=((i+1:Nat):Int):=by rw [wiid (by omega) (by omega)];omega
    obtain ⟨b,hb⟩:=selfN_some hrng i
    rw [br_dec,if_pos (by omega),P303_eq hl hrng hi,hb]
    simp only [bno_s]
    unfold ringF
    rw [hb]
    cases b with
    | true=>rfl
    | false =>
     simp only [br_false,e4,Option.some.injEq,Bool.false_eq_true,if_false,Option.map_none]
     rfl) (fun _=>by
    simp only [S340_L2]
    rw [br_dec,if_neg (by omega)]
    rfl)
   rw [lp_eq,show (0:Int)=((0:Nat):Int) from rfl,L2,findSome_map]
   cases hs2:(List.range d.members.length).findSome? (fun i=>(ringF d i).map fun e=>((i:Int),e)) with
   | some r =>
    have hr:r.2≠0:=by
     obtain ⟨i,_,hi⟩:=List.exists_of_findSome?_eq_some hs2
     obtain ⟨e,he,rfl⟩:=Option.map_eq_some_iff.1 hi
     unfold ringF at he
     split at he
     ·cases he
      show (8:Int)≠0
      decide
     ·cases he
    simp only [Option.map_some,jn_r]
    rw [if_neg (show ¬ r.2=((0:Nat):Int) from hr)]
   | none=>rfl
 ·rw [show rulesE d=dimErr d from if_pos h0,decide_eq_false h0,Bool.not_false,br_true,if_neg h0]
end
end Ab
end
section
namespace Ab
open Go
set_option linter.unusedVariables false
set_option linter.unusedSimpArgs false
section
variable {n:List (List Int)} (hr:Rng n) (hn:n.length≤100000) (hw:∀ i,(n.getD i []).length≤100000)
include hr hn hw
end
end Ab
end
section
namespace Ab
open Go
set_option linter.unusedVariables false
set_option linter.unusedSimpArgs false
theorem allN_len (d:Dim):(allN d).length=d.members.length:=by unfold allN;rw [List.length_map,List.length_range]
theorem rules_zero {d:Dim} (h:(rulesE d).2=0):d.members.length≤12∧Rng (allN d)∧Acyc (allN d):=by
 have h0:(dimErr d).2=0:=Classical.byContradiction fun h1=>by
  rw [show rulesE d=dimErr d from if_pos h1] at h
  exact h1 h
 have ok:=dim_ok.1 h0
 obtain ⟨hl0,hl⟩:=ok.len
 rw [show rulesE d=rulesG d from if_neg (fun h=>h h0)] at h
 unfold rulesG at h
 cases hs:(List.range d.members.length).findSome? (fun i=>(memF d i).map fun e=>((i:Int),e)) with
 | some r =>
  rw [hs] at h
  obtain ⟨i,_,hi⟩:=List.exists_of_findSome?_eq_some hs
  obtain ⟨e,he,rfl⟩:=Option.map_eq_some_iff.1 hi
  exact absurd h (memF_ne he)
 | none =>
  rw [hs] at h
  have hnone:∀ i,i < d.members.length→memF d i=none:=fun i hi=>by
   have:=List.findSome?_eq_none_iff.1 hs i (List.mem_range.2 hi)
   simpa using this
  have hrng:=allN_rng hnone
  refine ⟨hl,hrng,fun i hi => ?_⟩
  rw [allN_len] at hi
  obtain ⟨b,hb⟩:=selfN_some hrng i
  cases b with
  | false=>exact selfN_false hrng hb
  | true =>
   cases hs2:(List.range d.members.length).findSome? (fun i=>(ringF d i).map fun e=>((i:Int),e)) with
   | some r =>
    rw [hs2] at h
    obtain ⟨j,_,hj⟩:=List.exists_of_findSome?_eq_some hs2
    obtain ⟨e,he,rfl⟩:=Option.map_eq_some_iff.1 hj
    unfold ringF at he
    split at he
    ·cases he
     have h8:(8:Int)=0:=h
     omega
    ·cases he
   | none =>
    have:=List.findSome?_eq_none_iff.1 hs2 i (List.mem_range.2 hi)
    unfold ringF at this
    rw [if_pos hb] at this
    cases this
theorem allN_w {d:Dim} (hl:d.members.length≤12) (i:Nat):((allN d).getD i []).length≤1000:=by
 unfold allN
 simp only [List.getD_eq_getElem?_getD,List.getElem?_map]
 by_cases hk:i < d.members.length
 ·rw [List.getElem?_range hk]
  exact Nat.le_trans (needN_len hl i) (by omega)
 ·rw [List.getElem?_eq_none (by rw [List.length_range];omega)]
  simp
theorem P315_eq (d:Dim):P315 d=some ((rulesE d).1,errOf (rulesE d).2):=by
 simp only [P315,S315,P340_eq,bno_s]
end Ab
end
