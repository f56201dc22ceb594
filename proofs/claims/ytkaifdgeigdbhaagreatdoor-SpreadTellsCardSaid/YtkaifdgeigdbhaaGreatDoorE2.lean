import Derived.Test.YtkaifdgeigdbhaaGreatDoorC9
open Option (toList_some)
set_option linter.all false
noncomputable section
namespace Ab
open Go
section
def zjN (s:ByteArray):∃ (l:List Node) (n e:Int),P247 s=some (l,n,e)∧P248 s=some (l,n,zA e)∧l.length<=30∧(e=0->FormOk l)∧0<=e:=by
 unfold P247 P248;by_cases hs:100 < s.size
 ·rw[if_pos hs,if_pos hs];exact ⟨[],0,4,rfl,rfl,by simp,fun e=>by omega,by omega⟩
 ·rw[if_neg hs,if_neg hs];obtain ⟨r,e⟩:=zkQ (s:=s) (by omega);rw[e,show rd s 404 (.row true) 0 []=some r from e];cases r with
  | bad b=>exact ⟨[],b,2,rfl,rfl,by simp,fun e=>by omega,by omega⟩
  | ok i b l =>
   simp only;by_cases hb:b < s.size
   ·rw[if_pos hb,if_pos hb];exact ⟨[],b,2,rfl,rfl,by simp,fun e=>by omega,by omega⟩
   ·rw[if_neg hb,if_neg hb,P240_eq,P241_eq];simp only[zk];by_cases h0:zfb l=0
    ·have ok:=form_ok.1 h0;refine ⟨l,0,0, ?_, ?_,ok.most,fun _=>ok,Int.le_refl _⟩
     ·rw[h0];rfl
     ·rw[h0];rfl
    ·have hp:0<=zfb l:=by
      unfold zfb;split
      ·omega
      split
      ·omega
      split
      ·rename_i e he;obtain ⟨i,_,hi⟩:=AM he;unfold jY at hi;split at hi
       ·split at hi
        ·cases hi
        ·cases hi;unfold qZ
         repeat' split
         all_goals omega
       ·cases hi
      ·split
       ·rename_i e he;obtain ⟨i,_,hi⟩:=AM he;unfold yq at hi;split at hi
        ·cases hi
        ·cases hi;omega
       ·omega
     refine ⟨[],0,zfb l, ?_, ?_,by simp,fun e=>absurd e h0,hp⟩
     ·rw[if_neg h0]
     ·rw[zP,if_neg (by simpa using h0)]
def rdT (s:ByteArray):List Node×Int×Int:=(P247 s).getD ([],0,0)
def P247_eq (s:ByteArray):P247 s=some (rdT s):=by obtain ⟨l,n,e,h1,_⟩:=zjN s;unfold rdT;rw[h1];rfl
def P248_eq (s:ByteArray):P248 s=some ((rdT s).1,(rdT s).2.1,zA (rdT s).2.2):=by obtain ⟨l,n,e,h1,h2,_⟩:=zjN s;unfold rdT;rw[h1,h2];rfl
def rdT_ok {s:ByteArray} (h:(rdT s).2.2=0):FormOk (rdT s).1:=by obtain ⟨l,n,e,h1,_,_,h4,_⟩:=zjN s;unfold rdT at h ⊢;rw[h1] at h ⊢;exact h4 h
def ziE (s:ByteArray):(rdT s).1.length<=30:=by obtain ⟨l,n,e,h1,_,h3,_⟩:=zjN s;unfold rdT;rw[h1];exact h3
def cu (l:List Int) (n:Int):Bool:=l.any fun y=>decide (y=n)
def zbT {l:List Int} {n:Int}:cu l n=true↔n∈l:=by simp[cu]
def P362_eq (l:List Int) (n:Int) (h:l.length<=9223372036854775807):P362 l n=some (idxOf (fun y=>decide (y=n)) l):=by
 refine zat _ l (fun i y hy => ?_) (by simp[zjj]);have hi:=(Ac.1 hy).1;have e:(((i:Nat):Int) < ((l.length:Nat):Int)):=by omega
 simp only[zjj,zb,hy,zk,e,decide_true,zg];rw[zJ (by omega) (by omega)];by_cases c:y=n
 ·simp[c]
 ·have c':¬ n=y:=fun e=>c e.symm;simp[c,c']
def P357_eq (l:List Int) (n:Int) (h:l.length<=9223372036854775807):P357 l n=some (cu l n):=by simp only[P357,S357,P362_eq l n h,zk];congr 1;exact zgB _ _
def compI_len (l:List Int):(gv l).length<=l.length:=by unfold gv Lib.compact Lib.compactUpTo;rw[Ao];exact AL (Bo _ _) (by simp)
def setI_len (l:List Int):(cB l).length<=l.length:=by have:=compI_len (zdL l);rw[yS] at this;exact this
def zhb {l:List Int} (h:l.length<=1000000):(bno (P213 l) fun cg=>ck (decide (List.length cg=List.length l)) <| bno (P302 cg) fun fU=>some fU)=some (cB l):=by unfold P213 P302;rw[zw (by unfold zH;omega)];simp only[zk];rw[zw (yS l),zw (by rw[yS];unfold zH;omega)];rfl
def zkh {α:Type} {b:Bool} (h:b=true) (x:Option α):ck b x=x:=by rw[h];rfl
section
variable {d:Dim}
def cntP2 (d:Dim) (i:Int):List Int:=(partsOf d.members i).filter fun k=>decide (¬ sgn d.members k=0)
def zdp {i x:Int} (h:x∈partsOf d.members i):∃ k:Nat,x=k∧k < d.members.length:=by obtain ⟨k,e,hk,_⟩:=mem_idxs.1 h;exact ⟨k,e,hk⟩
def pt {l:List Node} {i:Nat} {x:Node} (h:l[i]? = some x):bO (l.take (i+1))=bO (l.take i)++(if x.op=2 then [x.name] else []):=by rw[A6,h,refL_app];congr 1;unfold bO;by_cases c:x.op=2<;>simp[c]
def zfq (hl:d.members.length<=1000) {l:List Node} (oN:l.length<=1000) (a2:Option (List Node)) (ha:Option.getD a2 []=l):lpO (zeL P37 d a2) (([]:List Int),(0:Int))=some (.inl ((bO l).map (qy d.members),(l.length:Int))):=by
 have hs:=zU (B:=zeL P37 d a2) (fun i=>((bO (l.take i)).map (qy d.members),(i:Int))) l.length (fun i hi=>by
  have hx:=Aa hi;simp only[zeL,ha];rw[zE,if_pos (by omega)];simp only[zb,hx,zk];have e4:wi ((i:Int)+1)=((i+1:Nat):Int):=by rw[zJ (by omega) (by omega)];omega
  rw[pt hx,zE];have hb:(bO (l.take i)).length<=1000:=AL (zdn _) (by rw[Bm];omega);by_cases c:l[i].op=2
  ·rw[if_pos c,P37_eq _ _ (by omega),if_pos c];simp only[zk];rw[zw (by rw[Ao];simp only[Bb];unfold zH;omega)];simp only[zt,zN,e4,A7,Ar,Bk];rfl
  ·rw[if_neg c,if_neg c];simp only[zt,zN,e4,Bg]
   rfl)
 rw[show (([]:List Int),(0:Int))=((bO (l.take 0)).map (qy d.members),((0:Nat):Int)) by rw[BU];rfl,hs,BI];refine zD ?_;simp only[zeL,ha];rw[zE,if_neg (by omega)];rfl
def P356_some (hl:d.members.length<=1000) {l:List Node} (ak:l≠[]) (oN:l.length<=1000) (i:Int):P356 d i (some l)=some (cB ((bO l).map (qy d.members))):=by simp only[P356,S356,zO,zfq hl oN (some l) rfl,zN];rw[zkh (by cases l with | nil=>exact absurd rfl ak | cons=>rfl)];simp only[Option.isNone_some,za,zt,zN];exact zhb (by rw[Ao];exact AL (zdn _) (by omega))
def zkR (hl:d.members.length<=1000) (ps:List Int) (hp:∀ x∈ps,∃ k:Nat,x=k∧k < d.members.length) (hn:ps.length<=1000):lpO (zeK d ps) (([]:List Int),(0:Int))=some (.inl (ps.filter (fun k=>decide (¬ sgn d.members k=0)),(ps.length:Int))):=by
 have hs:=zU (B:=zeK d ps) (fun i=>((ps.take i).filter (fun k=>decide (¬ sgn d.members k=0)),(i:Int))) ps.length (fun i hi=>by
  have hx:=Aa hi;obtain ⟨k,hk,fW⟩:=hp _ (Ay hi);have hm:=Aa fW;simp only[zeK];rw[zE,if_pos (by omega)];have e4:wi ((i:Int)+1)=((i+1:Nat):Int):=by rw[zJ (by omega) (by omega)];omega
  have hb:((ps.take i).filter (fun k=>decide (¬ sgn d.members k=0))).length<=1000:=AL (Bo _ _) (by rw[Bm];omega);have iq:sgn d.members ps[i]=(d.members[k]).sign:=by unfold sgn;rw[hk,Am,hm]
  simp only[zb,hx,zk];rw[show zo d.members ps[i]=some d.members[k] by rw[hk,zb,hm]];simp only[zk];rw[A6,hx,B8,zE];by_cases c:(d.members[k]).sign=0
  ·rw[if_neg (by simpa using c)];simp only[zt,zN,e4,toList_some];rw[List.filter_cons_of_neg (by rw[iq];simpa using c)];simp
  ·rw[if_pos c,zw (by simp only[Bb];unfold zH;omega)];simp only[zt,zN,e4,toList_some];rw[List.filter_cons_of_pos (by rw[iq];simpa using c)]
   rfl)
 rw[show (([]:List Int),(0:Int))=((ps.take 0).filter (fun k=>decide (¬ sgn d.members k=0)),((0:Nat):Int)) by rw[BU];rfl,hs,BI];refine zD ?_;simp only[zeK];rw[zE,if_neg (by omega)];rfl
def P356_none (hl:d.members.length<=1000) (i:Int):P356 d i none=some (cB (cntP2 d i)):=by simp only[P356,S356,zO,zfq hl (l:=[]) (by simp) none rfl,zN];rw[zkh rfl];have fk:(partsOf d.members i).length<=1000:=AL (zbS _ _) hl;simp only[Option.isNone_none,zg,P47_eq hl,zk];rw[show (bO []).map (qy d.members)=([]:List Int) from rfl,zkR hl _ (fun x hx=>zdp hx) fk];simp only[zN,zt];exact zhb (AL (Bo _ _) (by omega))
def rawN (d:Dim) (i:Nat):List Int:=match d.members[i]? with
 | some m=>if m.formula=⟨#[]⟩ then cntP2 d i else (bO (rdT m.formula).1).map (qy d.members)
 | none=>[]
def yw (d:Dim) (i:Nat):List Int:=cB (rawN d i)
def cw (d:Dim) (i:Nat):Option Int:=match d.members[i]? with
 | some m=>if m.formula≠⟨#[]⟩∧(rdT m.formula).2.2≠0 then some (rdT m.formula).2.2 else if cu (yw d i) (-1)=true then some 5 else none
 | none=>none
def zde (d:Dim):List (List Int):=(List.range d.members.length).map (yw d)
def zfT (d:Dim) (i:Nat):Option Int:=if eW (zde d) i=some true then some 8 else none
def zhg (d:Dim):Int×Int :=
  match (List.range d.members.length).findSome? fun i=>(cw d i).map fun e=>((i:Int),e) with
  | some r=>r
  | none=>match (List.range d.members.length).findSome? fun i=>(zfT d i).map fun e=>((i:Int),e) with
   | some r=>r
   | none=>(-1,0)
def jS (d:Dim):Int×Int:=if ¬ (zT d).2=0 then zT d else zhg d
def P355_eq {i:Nat} {m:Member} (h:d.members[i]? = some m):P355 d (i:Int)=some (if m.formula=⟨#[]⟩ then (none,.nil) else (some (rdT m.formula).1,zA (rdT m.formula).2.2)):=by
 simp only[P355,S355,zb,h,zk,P248_eq];rw[zE]
 split<;>rfl
def rawN_len (hl:d.members.length<=12) (i:Nat):(rawN d i).length<=30:=by
 unfold rawN;split
 ·split
  ·exact AL (Bo _ _) (AL (zbS _ _) (by omega))
  ·rw[Ao];exact AL (zdn _) (ziE _)
 ·simp
def zdZ (hl:d.members.length<=12) (i:Nat):(yw d i).length<=30:=AL (setI_len _) (rawN_len hl i)
def P356_need (hl:d.members.length<=12) {i:Nat} {m:Member} (h:d.members[i]? = some m) (hf:¬ (m.formula≠⟨#[]⟩∧(rdT m.formula).2.2≠0)) :
  P356 d (i:Int) (if m.formula=⟨#[]⟩ then none else some (rdT m.formula).1)=some (yw d i):=by
 unfold yw rawN;rw[h];simp only;by_cases c:m.formula=⟨#[]⟩
 ·rw[if_pos c,if_pos c,P356_none (by omega)]
 ·have h0:(rdT m.formula).2.2=0:=Classical.byContradiction fun e=>hf ⟨c,e⟩;have ok:=rdT_ok h0;have ak:(rdT m.formula).1≠[]:=fun e=>by have:=ok.pos;rw[e] at this;simp at this
  rw[if_neg c,if_neg c,P356_some (by omega) ak (AL (ziE _) (by omega))]
def memF_none {i:Nat} {m:Member} (h:d.members[i]? = some m) (hn:cw d i=none):¬ (m.formula≠⟨#[]⟩∧(rdT m.formula).2.2≠0)∧cu (yw d i) (-1)=false:=by
 unfold cw at hn;rw[h] at hn;simp only at hn;split at hn
 ·cases hn
 ·rename_i c;split at hn
  ·cases hn
  ·rename_i c2;exact ⟨c,Bool.eq_false_iff.2 c2⟩
def zcH (l:List Member) (s:ByteArray) : -1<=qy l s∧qy l s < l.length:=by
 unfold qy idxOf;split
 ·rename_i i hi;have:=(BK.1 hi).1;omega
 ·omega
def zkm (hn:∀ i,i < d.members.length->cw d i=none):Rng (zde d):=by
 intro i k hk;unfold zde at hk ⊢;rw[Ao,Bw];by_cases hi:i < d.members.length
 ·have hx:=Aa hi;simp only[Aw,Au,Cz hi,AH,Be] at hk;obtain ⟨h1,h2⟩:=memF_none hx (hn i hi);have h3:k ≠ -1:=fun e=>(by rw[e] at hk;rw[zbT.2 hk] at h2;cases h2);have dv:k∈rawN d i:=(zfR _).2 k |>.1 hk;unfold rawN at dv;rw[hx] at dv;simp only at dv;split at dv
  ·obtain ⟨k',rfl,ay⟩:=zdp (BC.1 dv).1;omega
  ·obtain ⟨s,_,rfl⟩:=Aj.1 dv;have:=zcH d.members s;omega
 ·simp only[Aw,Au,AR (show (List.range d.members.length).length<=i by rw[Bw];omega),BA,Option.getD_none] at hk;cases hk
def memF_ne {i:Nat} {e:Int} (h:cw d i=some e):e≠0:=by
 unfold cw at h;split at h
 ·split at h
  ·rename_i c;cases h;exact c.2
  ·split at h
   ·cases h;decide
   ·cases h
 ·cases h
def P303_eq (hl:d.members.length<=12) (hr:Rng (zde d)) {i:Nat} (hi:i < d.members.length):P303 (zde d) (i:Int)=eW (zde d) i:=by
 unfold P303;rw[if_pos,Am];refine ⟨hr,by omega,by unfold zde;rw[Ao,Bw];omega,by unfold zde;rw[Ao,Bw];omega,fun k => ?_⟩;unfold zde;simp only[Aw,Au];by_cases hk:k < d.members.length
 ·rw[Cz hk];exact AL (zdZ hl k) (by omega)
 ·rw[AR (by rw[Bw];omega)];simp
def P340_eq (d:Dim):P340 d=some (if (jS d).2=0 then zde d else [],(jS d).1,zA (jS d).2):=by
 simp only[P340,S340,P15_eq,zk,zP];by_cases h0:(zT d).2=0
 ·have ok:=zka.1 h0;obtain ⟨fy,hl⟩:=ok.len;rw[show jS d=zhg d from if_neg (fun h=>h h0)];unfold zhg;rw[decide_eq_true h0,A4,za];have L1:=js (B:=zgR P355 P356 P357 d) (fun i=>((List.range i).map (yw d),(i:Int))) d.members.length (fun i=>((cw d i).map fun e=>((i:Int),e)).map fun r=>(([]:List (List Int)),r.1,zA r.2)) (d:=(zde d,(d.members.length:Int))) (fun i hi hg=>by
   have hx:=Aa hi;simp only[zgR];rw[zE,if_pos (by omega),P355_eq hx];simp only[zk];have e4:wi ((i:Int)+1)=((i+1:Nat):Int):=by rw[zJ (by omega) (by omega)];omega
   by_cases hf:(d.members[i]).formula≠⟨#[]⟩∧(rdT (d.members[i]).formula).2.2≠0
   ·have hm:cw d i=some (rdT (d.members[i]).formula).2.2:=by unfold cw;rw[hx];simp only;rw[if_pos hf]
    rw[hm,if_neg hf.1];simp only[zP,decide_eq_false hf.2,B7,zg,AH];rfl
   ·have hn2:=P356_need hl hx hf;have cJ:∀ (k:Option (List Node)×Err->Option (LR (List (List Int)×Int) (List (List Int)×Int×Err))),k (if (d.members[i]).formula=⟨#[]⟩ then (none,.nil) else (some (rdT (d.members[i]).formula).1,zA (rdT (d.members[i]).formula).2.2))=k (if (d.members[i]).formula=⟨#[]⟩ then none else some (rdT (d.members[i]).formula).1,.nil):=by
     intro k;by_cases c:(d.members[i]).formula=⟨#[]⟩
     ·rw[if_pos c,if_pos c]
     ·have h1:(rdT (d.members[i]).formula).2.2=0:=Classical.byContradiction fun e=>hf ⟨c,e⟩;rw[if_neg c,if_neg c,h1];rfl
    have:=cJ (fun y3=>br (!(Err.isNil y3.2)) (qP (some (([]:List (List Int)),(i:Int),y3.2))) (bno (P356 d (i:Int) y3.1) fun y4=>bno (P357 y4 (-1:Int)) fun y5=>br y5 (qP (some (([]:List (List Int)),(i:Int),Err.no (5:Int)))) (ck (decide (List.length ((List.range i).map (yw d))+List.length ([y4]:List (List Int))<=zH)) <| nxO (some ((List.range i).map (yw d)++([y4]:List (List Int)),wi ((i:Int)+(1:Int)))))));simp only at this;rw[this];have hnl:=zdZ hl i;simp only[zam,A4,za,hn2,zk,P357_eq _ _ (show (yw d i).length<=9223372036854775807 by omega)];have hm:cw d i=if cu (yw d i) (-1)=true then some 5 else none:=by unfold cw;rw[hx];simp only;rw[if_neg hf]
    rw[hm];by_cases c:cu (yw d i) (-1)=true
    ·rw[c];rfl
    ·rw[Cf] at c;rw[c];simp only[za,Ap,if_false,BA];rw[zw (by rw[Ao,Bw];simp only[Bb];unfold zH;omega),e4,BZ,A7]
     rfl) (fun _=>by
   simp only[zgR];rw[zE,if_neg (by omega)]
   rfl)
  have e0:(([]:List (List Int)),(0:Int))=((List.range 0).map (yw d),((0:Nat):Int)):=rfl;rw[zO,e0,L1,qm];cases hs:(List.range d.members.length).findSome? (fun i=>(cw d i).map fun e=>((i:Int),e)) with
  | some r =>have hr:r.2≠0:=(by obtain ⟨i,_,hi⟩:=AM hs;obtain ⟨e,he,rfl⟩:=Ag.1 hi;exact memF_ne he);simp only[AH,jn_r,if_neg hr]
  | none =>
   have bp:∀ i,i < d.members.length->cw d i=none:=fun i hi=>(by have:=Bq.1 hs i (Bj.2 hi);simpa using this);have dQ:=zkm bp;simp only[BA,zN];have L2:=js (B:=zgQ P303 d (zde d,(d.members.length:Int))) (fun i=>(i:Int)) d.members.length (fun i=>((zfT d i).map fun e=>((i:Int),e)).map fun r=>(([]:List (List Int)),r.1,zA r.2)) (d:=((d.members.length:Nat):Int)) (fun i hi hg=>by
    simp only[zgQ];have e4:wi ((i:Int)+1)=((i+1:Nat):Int):=by rw[zJ (by omega) (by omega)];omega
    obtain ⟨b,hb⟩:=zfi dQ i;rw[zE,if_pos (by omega),P303_eq hl dQ hi,hb];simp only[zk];unfold zfT;rw[hb];cases b with
    | true=>rfl
    | false =>
     simp only[za,e4,Option.some.injEq,Ap,if_false,BA]
     rfl) (fun _=>by
    simp only[zgQ];rw[zE,if_neg (by omega)]
    rfl)
   rw[zO,show (0:Int)=((0:Nat):Int) from rfl,L2,qm];cases ez:(List.range d.members.length).findSome? (fun i=>(zfT d i).map fun e=>((i:Int),e)) with
   | some r =>
    have hr:r.2≠0:=by
     obtain ⟨i,_,hi⟩:=AM ez;obtain ⟨e,he,rfl⟩:=Ag.1 hi;unfold zfT at he;split at he
     ·cases he;show (8:Int)≠0;decide
     ·cases he
    simp only[AH,jn_r];rw[if_neg (show ¬ r.2=((0:Nat):Int) from hr)]
   | none=>rfl
 ·rw[show jS d=zT d from if_pos h0,decide_eq_false h0,B7,zg,if_neg h0]
end
end
section
section
variable {n:List (List Int)} (hr:Rng n) (hn:n.length<=100000) (hw:∀ i,(n.getD i []).length<=100000)
include hr hn hw
end
end
section
def zgC (d:Dim):(zde d).length=d.members.length:=by unfold zde;rw[Ao,Bw]
def allN_w {d:Dim} (hl:d.members.length<=12) (i:Nat):((zde d).getD i []).length<=1000:=by
 unfold zde;simp only[Aw,Au];by_cases hk:i < d.members.length
 ·rw[Cz hk];exact AL (zdZ hl i) (by omega)
 ·rw[AR (by rw[Bw];omega)];simp
def P315_eq (d:Dim):P315 d=some ((jS d).1,zA (jS d).2):=by simp only[P315,S315,P340_eq,zk]
end
end Ab
