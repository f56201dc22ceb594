import Derived.Test.YtkaifdgeigdbhaaGreatDoorC9
open Option (toList_some)
set_option linter.all false
noncomputable section
namespace Ab
open Go
section
def rdT_ex (s:ByteArray):∃ (l:List Node) (n e:Int),P247 s=some (l,n,e)∧P248 s=some (l,n,zk e)∧l.length<=30∧(e=0->FormOk l)∧0<=e:=by
 unfold P247 P248;by_cases hs:100 < s.size
 ·rw[if_pos hs,if_pos hs];exact ⟨[],0,4,rfl,rfl,by simp,fun e=>by omega,by omega⟩
 ·rw[if_neg hs,if_neg hs];obtain ⟨r,e⟩:=zj2 (s:=s) (by omega);rw[e,show rd s 404 (.row true) 0 []=some r from e];cases r with
  | bad b=>exact ⟨[],b,2,rfl,rfl,by simp,fun e=>by omega,by omega⟩
  | ok i b l =>
   simp only;by_cases hb:b < s.size
   ·rw[if_pos hb,if_pos hb];exact ⟨[],b,2,rfl,rfl,by simp,fun e=>by omega,by omega⟩
   ·rw[if_neg hb,if_neg hb,P240_eq,P241_eq];simp only[zj];by_cases h0:zeL l=0
    ·have ok:=form_ok.1 h0;refine ⟨l,0,0, ?_, ?_,ok.most,fun _=>ok,Int.le_refl _⟩
     ·rw[h0];rfl
     ·rw[h0];rfl
    ·have hp:0<=zeL l:=by
      unfold zeL;split
      ·omega
      split
      ·omega
      split
      ·rename_i e he;obtain ⟨i,_,hi⟩:=A5 he;unfold jE at hi;split at hi
       ·split at hi
        ·cases hi
        ·cases hi;unfold qN
         repeat' split
         all_goals omega
       ·cases hi
      ·split
       ·rename_i e he;obtain ⟨i,_,hi⟩:=A5 he;unfold jY at hi;split at hi
        ·cases hi
        ·cases hi;omega
       ·omega
     refine ⟨[],0,zeL l, ?_, ?_,by simp,fun e=>absurd e h0,hp⟩
     ·rw[if_neg h0]
     ·rw[zt,if_neg (by simpa using h0)]
def rdT (s:ByteArray):List Node×Int×Int:=(P247 s).getD ([],0,0)
def P248_eq (s:ByteArray):P248 s=some ((rdT s).1,(rdT s).2.1,zk (rdT s).2.2):=by obtain ⟨l,n,e,h1,h2,_⟩:=rdT_ex s;unfold rdT;rw[h1,h2];rfl
def rdT_ok {s:ByteArray} (h:(rdT s).2.2=0):FormOk (rdT s).1:=by obtain ⟨l,n,e,h1,_,_,h4,_⟩:=rdT_ex s;unfold rdT at h ⊢;rw[h1] at h ⊢;exact h4 h
def rdT_len (s:ByteArray):(rdT s).1.length<=30:=by obtain ⟨l,n,e,h1,_,h3,_⟩:=rdT_ex s;unfold rdT;rw[h1];exact h3
def hasI (l:List Int) (n:Int):Bool:=l.any fun y=>decide (y=n)
def hasI_mem {l:List Int} {n:Int}:hasI l n=true↔n∈l:=by simp[hasI]
def P362_eq (l:List Int) (n:Int) (h:l.length<=9223372036854775807):P362 l n=some (idxOf (fun y=>decide (y=n)) l):=by
 refine zbx _ l (fun i y hy => ?_) (by simp[ziI]);have hi:=(Ac.1 hy).1;have e:(((i:Nat):Int) < ((l.length:Nat):Int)):=by omega
 simp only[ziI,zi,hy,zj,e,decide_true,zh];rw[zN (by omega) (by omega)];by_cases c:y=n
 ·simp[c]
 ·have c':¬ n=y:=fun e=>c e.symm;simp[c,c']
def P357_eq (l:List Int) (n:Int) (h:l.length<=9223372036854775807):P357 l n=some (hasI l n):=by simp only[P357,S357,P362_eq l n h,zj];congr 1;exact zgg _ _
def compI_len (l:List Int):(zhz l).length<=l.length:=by unfold zhz Lib.compact Lib.compactUpTo;rw[Ap];exact AO (BG _ _) (by simp)
def setI_len (l:List Int):(setI l).length<=l.length:=by have:=compI_len (zdn l);rw[yC] at this;exact this
def zgI {l:List Int} (h:l.length<=1000000):(bno (P213 l) fun dp=>ck (decide (List.length dp=List.length l)) <| bno (P302 dp) fun eT=>some eT)=some (setI l):=by unfold P213 P302;rw[zC (by unfold zP;omega)];simp only[zj];rw[zC (yC l),zC (by rw[yC];unfold zP;omega)];rfl
def zjv {α:Type} {b:Bool} (h:b=true) (x:Option α):ck b x=x:=by rw[h];rfl
section
variable {d:Dim}
def cntP2 (d:Dim) (i:Int):List Int:=(partsOf d.members i).filter fun k=>decide (¬ sgn d.members k=0)
def oS {i x:Int} (h:x∈partsOf d.members i):∃ k:Nat,x=k∧k < d.members.length:=by obtain ⟨k,e,hk,_⟩:=mem_idxs.1 h;exact ⟨k,e,hk⟩
def zeE {l:List Node} {i:Nat} {x:Node} (h:l[i]? = some x):zhO (l.take (i+1))=zhO (l.take i)++(if x.op=2 then [x.name] else []):=by rw[BF,h,refL_app];congr 1;unfold zhO;by_cases c:x.op=2<;>simp[c]
def pq (hl:d.members.length<=1000) {l:List Node} (rL:l.length<=1000) (a2:Option (List Node)) (ha:Option.getD a2 []=l):lpO (zeq P37 d a2) (([]:List Int),(0:Int))=some (.inl ((zhO l).map (wO d.members),(l.length:Int))):=by
 have hs:=qe (B:=zeq P37 d a2) (fun i=>((zhO (l.take i)).map (wO d.members),(i:Int))) l.length (fun i hi=>by
  have hx:=Aa hi;simp only[zeq,ha];rw[qr,if_pos (by omega)];simp only[zi,hx,zj];have e4:wi ((i:Int)+1)=((i+1:Nat):Int):=by rw[zN (by omega) (by omega)];omega
  rw[zeE hx,qr];have hb:(zhO (l.take i)).length<=1000:=AO (zfv _) (by rw[A4];omega);by_cases c:l[i].op=2
  ·rw[if_pos c,P37_eq _ _ (by omega),if_pos c];simp only[zj];rw[zC (by rw[Ap];simp only[BR];unfold zP;omega)];simp only[zA,zV,e4,Bc,Aq,Bk];rfl
  ·rw[if_neg c,if_neg c];simp only[zA,zV,e4,Bq]
   rfl)
 rw[show (([]:List Int),(0:Int))=((zhO (l.take 0)).map (wO d.members),((0:Nat):Int)) by rw[BL];rfl,hs,BJ];refine zE ?_;simp only[zeq,ha];rw[qr,if_neg (by omega)];rfl
def P356_some (hl:d.members.length<=1000) {l:List Node} (ah:l≠[]) (rL:l.length<=1000) (i:Int):P356 d i (some l)=some (setI ((zhO l).map (wO d.members))):=by simp only[P356,S356,z7,pq hl rL (some l) rfl,zV];rw[zjv (by cases l with | nil=>exact absurd rfl ah | cons=>rfl)];simp only[Option.isNone_some,za,zA,zV];exact zgI (by rw[Ap];exact AO (zfv _) (by omega))
def zj3 (hl:d.members.length<=1000) (ps:List Int) (hp:∀ x∈ps,∃ k:Nat,x=k∧k < d.members.length) (hn:ps.length<=1000):lpO (zep d ps) (([]:List Int),(0:Int))=some (.inl (ps.filter (fun k=>decide (¬ sgn d.members k=0)),(ps.length:Int))):=by
 have hs:=qe (B:=zep d ps) (fun i=>((ps.take i).filter (fun k=>decide (¬ sgn d.members k=0)),(i:Int))) ps.length (fun i hi=>by
  have hx:=Aa hi;obtain ⟨k,hk,fR⟩:=hp _ (Az hi);have hm:=Aa fR;simp only[zep];rw[qr,if_pos (by omega)];have e4:wi ((i:Int)+1)=((i+1:Nat):Int):=by rw[zN (by omega) (by omega)];omega
  have hb:((ps.take i).filter (fun k=>decide (¬ sgn d.members k=0))).length<=1000:=AO (BG _ _) (by rw[A4];omega);have pT:sgn d.members ps[i]=(d.members[k]).sign:=by unfold sgn;rw[hk,AH,hm]
  simp only[zi,hx,zj];rw[show zB d.members ps[i]=some d.members[k] by rw[hk,zi,hm]];simp only[zj];rw[BF,hx,CF,qr];by_cases c:(d.members[k]).sign=0
  ·rw[if_neg (by simpa using c)];simp only[zA,zV,e4,toList_some];rw[List.filter_cons_of_neg (by rw[pT];simpa using c)];simp
  ·rw[if_pos c,zC (by simp only[BR];unfold zP;omega)];simp only[zA,zV,e4,toList_some];rw[List.filter_cons_of_pos (by rw[pT];simpa using c)]
   rfl)
 rw[show (([]:List Int),(0:Int))=((ps.take 0).filter (fun k=>decide (¬ sgn d.members k=0)),((0:Nat):Int)) by rw[BL];rfl,hs,BJ];refine zE ?_;simp only[zep];rw[qr,if_neg (by omega)];rfl
def P356_none (hl:d.members.length<=1000) (i:Int):P356 d i none=some (setI (cntP2 d i)):=by simp only[P356,S356,z7,pq hl (l:=[]) (by simp) none rfl,zV];rw[zjv rfl];have eY:(partsOf d.members i).length<=1000:=AO (lI _ _) hl;simp only[Option.isNone_none,zh,P47_eq hl,zj];rw[show (zhO []).map (wO d.members)=([]:List Int) from rfl,zj3 hl _ (fun x hx=>oS hx) eY];simp only[zV,zA];exact zgI (AO (BG _ _) (by omega))
def rawN (d:Dim) (i:Nat):List Int:=match d.members[i]? with
 | some m=>if m.formula=⟨#[]⟩ then cntP2 d i else (zhO (rdT m.formula).1).map (wO d.members)
 | none=>[]
def zbW (d:Dim) (i:Nat):List Int:=setI (rawN d i)
def dF (d:Dim) (i:Nat):Option Int:=match d.members[i]? with
 | some m=>if m.formula≠⟨#[]⟩∧(rdT m.formula).2.2≠0 then some (rdT m.formula).2.2 else if hasI (zbW d i) (-1)=true then some 5 else none
 | none=>none
def zku (d:Dim):List (List Int):=(List.range d.members.length).map (zbW d)
def ringF (d:Dim) (i:Nat):Option Int:=if zjW (zku d) i=some true then some 8 else none
def rulesG (d:Dim):Int×Int :=
  match (List.range d.members.length).findSome? fun i=>(dF d i).map fun e=>((i:Int),e) with
  | some r=>r
  | none=>match (List.range d.members.length).findSome? fun i=>(ringF d i).map fun e=>((i:Int),e) with
   | some r=>r
   | none=>(-1,0)
def w9 (d:Dim):Int×Int:=if ¬ (qz d).2=0 then qz d else rulesG d
def P355_eq {i:Nat} {m:Member} (h:d.members[i]? = some m):P355 d (i:Int)=some (if m.formula=⟨#[]⟩ then (none,.nil) else (some (rdT m.formula).1,zk (rdT m.formula).2.2)):=by
 simp only[P355,S355,zi,h,zj,P248_eq];rw[qr]
 split<;>rfl
def rawN_len (hl:d.members.length<=12) (i:Nat):(rawN d i).length<=30:=by
 unfold rawN;split
 ·split
  ·exact AO (BG _ _) (AO (lI _ _) (by omega))
  ·rw[Ap];exact AO (zfv _) (rdT_len _)
 ·simp
def oY (hl:d.members.length<=12) (i:Nat):(zbW d i).length<=30:=AO (setI_len _) (rawN_len hl i)
def P356_need (hl:d.members.length<=12) {i:Nat} {m:Member} (h:d.members[i]? = some m) (hf:¬ (m.formula≠⟨#[]⟩∧(rdT m.formula).2.2≠0)) :
  P356 d (i:Int) (if m.formula=⟨#[]⟩ then none else some (rdT m.formula).1)=some (zbW d i):=by
 unfold zbW rawN;rw[h];simp only;by_cases c:m.formula=⟨#[]⟩
 ·rw[if_pos c,if_pos c,P356_none (by omega)]
 ·have h0:(rdT m.formula).2.2=0:=Classical.byContradiction fun e=>hf ⟨c,e⟩;have ok:=rdT_ok h0;have ah:(rdT m.formula).1≠[]:=fun e=>by have:=ok.pos;rw[e] at this;simp at this
  rw[if_neg c,if_neg c,P356_some (by omega) ah (AO (rdT_len _) (by omega))]
def memF_none {i:Nat} {m:Member} (h:d.members[i]? = some m) (hn:dF d i=none):¬ (m.formula≠⟨#[]⟩∧(rdT m.formula).2.2≠0)∧hasI (zbW d i) (-1)=false:=by
 unfold dF at hn;rw[h] at hn;simp only at hn;split at hn
 ·cases hn
 ·rename_i c;split at hn
  ·cases hn
  ·rename_i c2;exact ⟨c,Bool.eq_false_iff.2 c2⟩
def zgC (l:List Member) (s:ByteArray) : -1<=wO l s∧wO l s < l.length:=by
 unfold wO idxOf;split
 ·rename_i i hi;have:=(BS.1 hi).1;omega
 ·omega
def allN_rng (hn:∀ i,i < d.members.length->dF d i=none):Rng (zku d):=by
 intro i k hk;unfold zku at hk ⊢;rw[Ap,BV];by_cases hi:i < d.members.length
 ·have hx:=Aa hi;simp only[AL,Au,List.getElem?_range hi,AN,Ba] at hk;obtain ⟨h1,h2⟩:=memF_none hx (hn i hi);have h3:k ≠ -1:=fun e=>(by rw[e] at hk;rw[hasI_mem.2 hk] at h2;cases h2);have cx:k∈rawN d i:=(setI_ok _).2 k |>.1 hk;unfold rawN at cx;rw[hx] at cx;simp only at cx;split at cx
  ·obtain ⟨k',rfl,ay⟩:=oS (BH.1 cx).1;omega
  ·obtain ⟨s,_,rfl⟩:=Al.1 cx;have:=zgC d.members s;omega
 ·simp only[AL,Au,Bo (show (List.range d.members.length).length<=i by rw[BV];omega),BT,Option.getD_none] at hk;cases hk
def memF_ne {i:Nat} {e:Int} (h:dF d i=some e):e≠0:=by
 unfold dF at h;split at h
 ·split at h
  ·rename_i c;cases h;exact c.2
  ·split at h
   ·cases h;decide
   ·cases h
 ·cases h
def P303_eq (hl:d.members.length<=12) (hr:Rng (zku d)) {i:Nat} (hi:i < d.members.length):P303 (zku d) (i:Int)=zjW (zku d) i:=by
 unfold P303;rw[if_pos,AH];refine ⟨hr,by omega,by unfold zku;rw[Ap,BV];omega,by unfold zku;rw[Ap,BV];omega,fun k => ?_⟩;unfold zku;simp only[AL,Au];by_cases hk:k < d.members.length
 ·rw[List.getElem?_range hk];exact AO (oY hl k) (by omega)
 ·rw[Bo (by rw[BV];omega)];simp
def P340_eq (d:Dim):P340 d=some (if (w9 d).2=0 then zku d else [],(w9 d).1,zk (w9 d).2):=by
 simp only[P340,S340,P15_eq,zj,zt];by_cases h0:(qz d).2=0
 ·have ok:=dim_ok.1 h0;obtain ⟨e7,hl⟩:=ok.len;rw[show w9 d=rulesG d from if_neg (fun h=>h h0)];unfold rulesG;rw[decide_eq_true h0,AU,za];have L1:=wa (B:=zgr P355 P356 P357 d) (fun i=>((List.range i).map (zbW d),(i:Int))) d.members.length (fun i=>((dF d i).map fun e=>((i:Int),e)).map fun r=>(([]:List (List Int)),r.1,zk r.2)) (d:=(zku d,(d.members.length:Int))) (fun i hi hg=>by
   have hx:=Aa hi;simp only[zgr];rw[qr,if_pos (by omega),P355_eq hx];simp only[zj];have e4:wi ((i:Int)+1)=((i+1:Nat):Int):=by rw[zN (by omega) (by omega)];omega
   by_cases hf:(d.members[i]).formula≠⟨#[]⟩∧(rdT (d.members[i]).formula).2.2≠0
   ·have hm:dF d i=some (rdT (d.members[i]).formula).2.2:=by unfold dF;rw[hx];simp only;rw[if_pos hf]
    rw[hm,if_neg hf.1];simp only[zt,decide_eq_false hf.2,BQ,zh,AN];rfl
   ·have nI:=P356_need hl hx hf;have dt:∀ (k:Option (List Node)×Err->Option (LR (List (List Int)×Int) (List (List Int)×Int×Err))),k (if (d.members[i]).formula=⟨#[]⟩ then (none,.nil) else (some (rdT (d.members[i]).formula).1,zk (rdT (d.members[i]).formula).2.2))=k (if (d.members[i]).formula=⟨#[]⟩ then none else some (rdT (d.members[i]).formula).1,.nil):=by
     intro k;by_cases c:(d.members[i]).formula=⟨#[]⟩
     ·rw[if_pos c,if_pos c]
     ·have h1:(rdT (d.members[i]).formula).2.2=0:=Classical.byContradiction fun e=>hf ⟨c,e⟩;rw[if_neg c,if_neg c,h1];rfl
    have:=dt (fun y3=>br (!(Err.isNil y3.2)) (jU (some (([]:List (List Int)),(i:Int),y3.2))) (bno (P356 d (i:Int) y3.1) fun y4=>bno (P357 y4 (-1:Int)) fun y5=>br y5 (jU (some (([]:List (List Int)),(i:Int),Err.no (5:Int)))) (ck (decide (List.length ((List.range i).map (zbW d))+List.length ([y4]:List (List Int))<=zP)) <| nxO (some ((List.range i).map (zbW d)++([y4]:List (List Int)),wi ((i:Int)+(1:Int)))))));simp only at this;rw[this];have hnl:=oY hl i;simp only[ya,AU,za,nI,zj,P357_eq _ _ (show (zbW d i).length<=9223372036854775807 by omega)];have hm:dF d i=if hasI (zbW d i) (-1)=true then some 5 else none:=by unfold dF;rw[hx];simp only;rw[if_neg hf]
    rw[hm];by_cases c:hasI (zbW d i) (-1)=true
    ·rw[c];rfl
    ·rw[Cc] at c;rw[c];simp only[za,Ao,if_false,BT];rw[zC (by rw[Ap,BV];simp only[BR];unfold zP;omega),e4,Cu,Bc]
     rfl) (fun _=>by
   simp only[zgr];rw[qr,if_neg (by omega)]
   rfl)
  have e0:(([]:List (List Int)),(0:Int))=((List.range 0).map (zbW d),((0:Nat):Int)):=rfl;rw[z7,e0,L1,qq];cases hs:(List.range d.members.length).findSome? (fun i=>(dF d i).map fun e=>((i:Int),e)) with
  | some r =>have hr:r.2≠0:=(by obtain ⟨i,_,hi⟩:=A5 hs;obtain ⟨e,he,rfl⟩:=Ag.1 hi;exact memF_ne he);simp only[AN,jn_r,if_neg hr]
  | none =>
   have b8:∀ i,i < d.members.length->dF d i=none:=fun i hi=>(by have:=BA.1 hs i (A9.2 hi);simpa using this);have eF:=allN_rng b8;simp only[BT,zV];have L2:=wa (B:=zgq P303 d (zku d,(d.members.length:Int))) (fun i=>(i:Int)) d.members.length (fun i=>((ringF d i).map fun e=>((i:Int),e)).map fun r=>(([]:List (List Int)),r.1,zk r.2)) (d:=((d.members.length:Nat):Int)) (fun i hi hg=>by
    simp only[zgq];have e4:wi ((i:Int)+1)=((i+1:Nat):Int):=by rw[zN (by omega) (by omega)];omega
    obtain ⟨b,hb⟩:=zjV eF i;rw[qr,if_pos (by omega),P303_eq hl eF hi,hb];simp only[zj];unfold ringF;rw[hb];cases b with
    | true=>rfl
    | false =>
     simp only[za,e4,Option.some.injEq,Ao,if_false,BT]
     rfl) (fun _=>by
    simp only[zgq];rw[qr,if_neg (by omega)]
    rfl)
   rw[z7,show (0:Int)=((0:Nat):Int) from rfl,L2,qq];cases eX:(List.range d.members.length).findSome? (fun i=>(ringF d i).map fun e=>((i:Int),e)) with
   | some r =>
    have hr:r.2≠0:=by
     obtain ⟨i,_,hi⟩:=A5 eX;obtain ⟨e,he,rfl⟩:=Ag.1 hi;unfold ringF at he;split at he
     ·cases he;show (8:Int)≠0;decide
     ·cases he
    simp only[AN,jn_r];rw[if_neg (show ¬ r.2=((0:Nat):Int) from hr)]
   | none=>rfl
 ·rw[show w9 d=qz d from if_pos h0,decide_eq_false h0,BQ,zh,if_neg h0]
end
end
section
section
variable {n:List (List Int)} (hr:Rng n) (hn:n.length<=100000) (hw:∀ i,(n.getD i []).length<=100000)
include hr hn hw
end
end
section
def P315_eq (d:Dim):P315 d=some ((w9 d).1,zk (w9 d).2):=by simp only[P315,S315,P340_eq,zj]
end
end Ab
