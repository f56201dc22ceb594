import Derived.Test.YtckaniphjiniiaaGreatDoorC9
open Option (toList_some)
set_option linter.all false
noncomputable section
namespace Ab
open Go
section
def rdT_ex (s:ByteArray):∃(l:List Node) (n e:Int),P247 s=some (l,n,e)∧P248 s=some (l,n,zn e)∧l.length<=30∧(e=0->FormOk l)∧0<=e:=by
 unfold P247 P248;by_cases hs:100<s.size
 ·rw[if_pos hs,if_pos hs];exact⟨[],0,4,rfl,rfl,by simp,fun e=>by omega,by omega⟩
 ·rw[if_neg hs,if_neg hs];obtain⟨r,e⟩:=zmg (s:=s) (by omega);rw[e,show rd s 404 (.row true) 0 []=some r from e];cases r with
  | bad b=>exact⟨[],b,2,rfl,rfl,by simp,fun e=>by omega,by omega⟩
  | ok i b l =>
   simp only;by_cases hb:b<s.size
   ·rw[if_pos hb,if_pos hb];exact⟨[],b,2,rfl,rfl,by simp,fun e=>by omega,by omega⟩
   ·rw[if_neg hb,if_neg hb,P240_eq,P241_eq];simp only[zj];by_cases h0:zfB l=0
    ·have ok:=form_ok.1 h0;refine⟨l,0,0, ?_, ?_,ok.most,fun _=>ok,C4 _⟩
     ·rw[h0];rfl
     ·rw[h0];rfl
    ·have hp:0<=zfB l:=by
      unfold zfB;split
      ·omega
      split
      ·omega
      split
      ·rename_i e he;obtain⟨i,_,hi⟩:=AO he;unfold jW at hi;split at hi
       ·split at hi
        ·cases hi
        ·cases hi;unfold qS
         repeat' split
         all_goals omega
       ·cases hi
      ·split
       ·rename_i e he;obtain⟨i,_,hi⟩:=AO he;unfold yv at hi;split at hi
        ·cases hi
        ·cases hi;omega
       ·omega
     refine⟨[],0,zfB l, ?_, ?_,by simp,fun e=>absurd e h0,hp⟩
     ·rw[if_neg h0]
     ·rw[zB,if_neg (by simpa using h0)]
def rdT (s:ByteArray):List Node×Int×Int:=(P247 s).getD ([],0,0)
def P248_eq (s:ByteArray):P248 s=some ((rdT s).1,(rdT s).2.1,zn (rdT s).2.2):=by obtain⟨l,n,e,h1,h2,_⟩:=rdT_ex s;unfold rdT;rw[h1,h2];rfl
def rdT_ok {s:ByteArray} (h:(rdT s).2.2=0):FormOk (rdT s).1:=by obtain⟨l,n,e,h1,_,_,h4,_⟩:=rdT_ex s;unfold rdT at h ⊢;rw[h1] at h ⊢;exact h4 h
def rdT_len (s:ByteArray):(rdT s).1.length<=30:=by obtain⟨l,n,e,h1,_,h3,_⟩:=rdT_ex s;unfold rdT;rw[h1];exact h3
def hasI (l:List Int) (n:Int):Bool:=l.any fun y=>decide (y=n)
def zln {l:List Int} {n:Int}:hasI l n=true↔n∈l:=by simp[hasI]
def P362_eq (l:List Int) (n:Int) (h:l.length<=9223372036854775807):P362 l n=some (idxOf (fun y=>decide (y=n)) l):=by
 refine mZ _ l (fun i y hy => ?_) (by simp[zkz]);have hi:=(Ac.1 hy).1;have e:(((i:Nat):Int)<((l.length:Nat):Int)):=by omega
 simp only[zkz,zg,hy,zj,e,decide_true,ze];rw[zR (by omega) (by omega)];by_cases c:y=n
 ·simp[c]
 ·have c':¬n=y:=fun e=>c e.symm;simp[c,c']
def P357_eq (l:List Int) (n:Int) (h:l.length<=9223372036854775807):P357 l n=some (hasI l n):=by simp only[P357,S357,P362_eq l n h,zj];congr 1;exact zhA _ _
def compI_len (l:List Int):(gE l).length<=l.length:=by unfold gE Lib.compact Lib.compactUpTo;rw[Aq];exact AD (BR _ _) (by simp)
def setI_len (l:List Int):(setI l).length<=l.length:=by have:=compI_len (fD l);rw[yX] at this;exact this
def sE {l:List Int} (h:l.length<=1000000):(bno (P213 l) fun cj=>ck (decide (List.length cj=List.length l)) <| bno (P302 cj) fun cM=>some cM)=some (setI l):=by unfold P213 P302;rw[zm (by unfold zC;omega)];simp only[zj];rw[zm (yX l),zm (by rw[yX];unfold zC;omega)];rfl
def zdP {α:Type} {b:Bool} (h:b=true) (x:Option α):ck b x=x:=by rw[h];rfl
section
variable {d:Dim}
def cntP2 (d:Dim) (i:Int):List Int:=(partsOf d.members i).filter fun k=>decide (¬sgn d.members k=0)
def zgQ {i x:Int} (h:x∈partsOf d.members i):∃k:Nat,x=k∧k<d.members.length:=by obtain⟨k,e,hk,_⟩:=zgZ.1 h;exact⟨k,e,hk⟩
def zfv {l:List Node} {i:Nat} {x:Node} (h:l[i]? = some x):zgJ (l.take (i+1))=zgJ (l.take i)++(if x.op=2 then [x.name] else []):=by rw[BL,h,refL_app];congr 1;unfold zgJ;by_cases c:x.op=2<;>simp[c]
def zfZ (hl:d.members.length<=1000) {l:List Node} (uu:l.length<=1000) (a2:Option (List Node)) (ha:Option.getD a2 []=l):lpO (zfi P37 d a2) (([]:List Int),(0:Int))=some (.inl ((zgJ l).map (jO d.members),(l.length:Int))):=by
 have hs:=zP (B:=zfi P37 d a2) (fun i=>((zgJ (l.take i)).map (jO d.members),(i:Int))) l.length (fun i hi=>by
  have hx:=Aa hi;simp only[zfi,ha];rw[zJ,if_pos (by omega)];simp only[zg,hx,zj];have e4:wi ((i:Int)+1)=((i+1:Nat):Int):=by rw[zR (by omega) (by omega)];omega
  rw[zfv hx,zJ];have hb:(zgJ (l.take i)).length<=1000:=AD (zgI _) (by rw[A3];omega);by_cases c:l[i].op=2
  ·rw[if_pos c,P37_eq _ _ (by omega),if_pos c];simp only[zj];rw[zm (by rw[Aq];simp only[Bj];unfold zC;omega)];simp only[zx,zY,e4,Bc,Aw,Bn];rfl
  ·rw[if_neg c,if_neg c];simp only[zx,zY,e4,Bl]
   rfl)
 rw[show (([]:List Int),(0:Int))=((zgJ (l.take 0)).map (jO d.members),((0:Nat):Int)) by rw[Ci];rfl,hs,BA];refine zF ?_;simp only[zfi,ha];rw[zJ,if_neg (by omega)];rfl
def P356_some (hl:d.members.length<=1000) {l:List Node} (ah:l≠[]) (uu:l.length<=1000) (i:Int):P356 d i (some l)=some (setI ((zgJ l).map (jO d.members))):=by simp only[P356,S356,zW,zfZ hl uu (some l) rfl,zY];rw[zdP (by cases l with|nil=>exact absurd rfl ah|cons=>rfl)];simp only[Option.isNone_some,za,zx,zY];exact sE (by rw[Aq];exact AD (zgI _) (by omega))
def zmh (hl:d.members.length<=1000) (ps:List Int) (hp:∀x∈ps,∃k:Nat,x=k∧k<d.members.length) (hn:ps.length<=1000):lpO (zfh d ps) (([]:List Int),(0:Int))=some (.inl (ps.filter (fun k=>decide (¬sgn d.members k=0)),(ps.length:Int))):=by
 have hs:=zP (B:=zfh d ps) (fun i=>((ps.take i).filter (fun k=>decide (¬sgn d.members k=0)),(i:Int))) ps.length (fun i hi=>by
  have hx:=Aa hi;obtain⟨k,hk,hI⟩:=hp _ (Ay hi);have hm:=Aa hI;simp only[zfh];rw[zJ,if_pos (by omega)];have e4:wi ((i:Int)+1)=((i+1:Nat):Int):=by rw[zR (by omega) (by omega)];omega
  have hb:((ps.take i).filter (fun k=>decide (¬sgn d.members k=0))).length<=1000:=AD (BR _ _) (by rw[A3];omega);have lX:sgn d.members ps[i]=(d.members[k]).sign:=by unfold sgn;rw[hk,Ap,hm]
  simp only[zg,hx,zj];rw[show zu d.members ps[i]=some d.members[k] by rw[hk,zg,hm]];simp only[zj];rw[BL,hx,CW,zJ];by_cases c:(d.members[k]).sign=0
  ·rw[if_neg (by simpa using c)];simp only[zx,zY,e4,toList_some];rw[List.filter_cons_of_neg (by rw[lX];simpa using c)];simp
  ·rw[if_pos c,zm (by simp only[Bj];unfold zC;omega)];simp only[zx,zY,e4,toList_some];rw[List.filter_cons_of_pos (by rw[lX];simpa using c)]
   rfl)
 rw[show (([]:List Int),(0:Int))=((ps.take 0).filter (fun k=>decide (¬sgn d.members k=0)),((0:Nat):Int)) by rw[Ci];rfl,hs,BA];refine zF ?_;simp only[zfh];rw[zJ,if_neg (by omega)];rfl
def P356_none (hl:d.members.length<=1000) (i:Int):P356 d i none=some (setI (cntP2 d i)):=by simp only[P356,S356,zW,zfZ hl (l:=[]) (by simp) none rfl,zY];rw[zdP rfl];have fx:(partsOf d.members i).length<=1000:=AD (zaZ _ _) hl;simp only[Option.isNone_none,ze,P47_eq hl,zj];rw[show (zgJ []).map (jO d.members)=([]:List Int) from rfl,zmh hl _ (fun x hx=>zgQ hx) fx];simp only[zY,zx];exact sE (AD (BR _ _) (by omega))
def zjT (d:Dim) (i:Nat):List Int:=match d.members[i]? with
 | some m=>if m.formula=⟨#[]⟩ then cntP2 d i else (zgJ (rdT m.formula).1).map (jO d.members)
 | none=>[]
def zbU (d:Dim) (i:Nat):List Int:=setI (zjT d i)
def cL (d:Dim) (i:Nat):Option Int:=match d.members[i]? with
 | some m=>if m.formula≠⟨#[]⟩∧(rdT m.formula).2.2≠0 then some (rdT m.formula).2.2 else if hasI (zbU d i) (-1)=true then some 5 else none
 | none=>none
def zcT (d:Dim):List (List Int):=(List.range d.members.length).map (zbU d)
def zgD (d:Dim) (i:Nat):Option Int:=if zgB (zcT d) i=some true then some 8 else none
def zbP (d:Dim):Int×Int :=
  match (List.range d.members.length).findSome? fun i=>(cL d i).map fun e=>((i:Int),e) with
  | some r=>r
  | none=>match (List.range d.members.length).findSome? fun i=>(zgD d i).map fun e=>((i:Int),e) with
   | some r=>r
   | none=>(-1,0)
def qQ (d:Dim):Int×Int:=if ¬(qw d).2=0 then qw d else zbP d
def P355_eq {i:Nat} {m:Member} (h:d.members[i]? = some m):zmQ d (i:Int)=some (if m.formula=⟨#[]⟩ then (none,.nil) else (some (rdT m.formula).1,zn (rdT m.formula).2.2)):=by
 simp only[zmQ,S355,zg,h,zj,P248_eq];rw[zJ]
 split<;>rfl
def rawN_len (hl:d.members.length<=12) (i:Nat):(zjT d i).length<=30:=by
 unfold zjT;split
 ·split
  ·exact AD (BR _ _) (AD (zaZ _ _) (by omega))
  ·rw[Aq];exact AD (zgI _) (rdT_len _)
 ·simp
def ziA (hl:d.members.length<=12) (i:Nat):(zbU d i).length<=30:=AD (setI_len _) (rawN_len hl i)
def P356_need (hl:d.members.length<=12) {i:Nat} {m:Member} (h:d.members[i]? = some m) (hf:¬(m.formula≠⟨#[]⟩∧(rdT m.formula).2.2≠0)) :
  P356 d (i:Int) (if m.formula=⟨#[]⟩ then none else some (rdT m.formula).1)=some (zbU d i):=by
 unfold zbU zjT;rw[h];simp only;by_cases c:m.formula=⟨#[]⟩
 ·rw[if_pos c,if_pos c,P356_none (by omega)]
 ·have h0:(rdT m.formula).2.2=0:=Ba fun e=>hf ⟨c,e⟩;have ok:=rdT_ok h0;have ah:(rdT m.formula).1≠[]:=fun e=>by have:=ok.pos;rw[e] at this;simp at this
  rw[if_neg c,if_neg c,P356_some (by omega) ah (AD (rdT_len _) (by omega))]
def memF_none {i:Nat} {m:Member} (h:d.members[i]? = some m) (hn:cL d i=none):¬(m.formula≠⟨#[]⟩∧(rdT m.formula).2.2≠0)∧hasI (zbU d i) (-1)=false:=by
 unfold cL at hn;rw[h] at hn;simp only at hn;split at hn
 ·cases hn
 ·rename_i c;split at hn
  ·cases hn
  ·rename_i c2;exact⟨c,DL.2 c2⟩
def zh1 (l:List Member) (s:ByteArray) : -1<=jO l s∧jO l s<l.length:=by
 unfold jO idxOf;split
 ·rename_i i hi;have:=(BJ.1 hi).1;omega
 ·omega
def zhB (hn:∀i,i<d.members.length->cL d i=none):Rng (zcT d):=by
 intro i k hk;unfold zcT at hk ⊢;rw[Aq,BQ];by_cases hi:i<d.members.length
 ·have hx:=Aa hi;simp only[An,As,BU hi,AQ,A7] at hk;obtain⟨h1,h2⟩:=memF_none hx (hn i hi);have h3:k ≠ -1:=fun e=>(by rw[e] at hk;rw[zln.2 hk] at h2;cases h2);have cx:k∈zjT d i:=(zgA _).2 k |>.1 hk;unfold zjT at cx;rw[hx] at cx;simp only at cx;split at cx
  ·obtain⟨k',rfl,aA⟩:=zgQ (BH.1 cx).1;omega
  ·obtain⟨s,_,rfl⟩:=Al.1 cx;have:=zh1 d.members s;omega
 ·simp only[An,As,Bu (show (List.range d.members.length).length<=i by rw[BQ];omega),Ca,Option.getD_none] at hk;cases hk
def zlM {i:Nat} (hi:i<d.members.length):(zcT d)[i]? = some (zbU d i):=by unfold zcT;rw[As,BU hi];rfl
def nY {i:Nat} {e:Int} (h:cL d i=some e):e≠0:=by
 unfold cL at h;split at h
 ·split at h
  ·rename_i c;cases h;exact c.2
  ·split at h
   ·cases h;decide
   ·cases h
 ·cases h
def P303_eq (hl:d.members.length<=12) (hr:Rng (zcT d)) {i:Nat} (hi:i<d.members.length):P303 (zcT d) (i:Int)=zgB (zcT d) i:=by
 unfold P303;rw[if_pos,Ap];refine⟨hr,by omega,by unfold zcT;rw[Aq,BQ];omega,by unfold zcT;rw[Aq,BQ];omega,fun k => ?_⟩;unfold zcT;simp only[An,As];by_cases hk:k<d.members.length
 ·rw[BU hk];exact AD (ziA hl k) (by omega)
 ·rw[Bu (by rw[BQ];omega)];simp
def P340_eq (d:Dim):P340 d=some (if (qQ d).2=0 then zcT d else [],(qQ d).1,zn (qQ d).2):=by
 simp only[P340,S340,P15_eq,zj,zB];by_cases h0:(qw d).2=0
 ·have ok:=lB.1 h0;obtain⟨fP,hl⟩:=ok.len;rw[show qQ d=zbP d from if_neg (fun h=>h h0)];unfold zbP;rw[decide_eq_true h0,AW,za];have L1:=wK (B:=zhP zmQ P356 P357 d) (fun i=>((List.range i).map (zbU d),(i:Int))) d.members.length (fun i=>((cL d i).map fun e=>((i:Int),e)).map fun r=>(([]:List (List Int)),r.1,zn r.2)) (d:=(zcT d,(d.members.length:Int))) (fun i hi hg=>by
   have hx:=Aa hi;simp only[zhP];rw[zJ,if_pos (by omega),P355_eq hx];simp only[zj];have e4:wi ((i:Int)+1)=((i+1:Nat):Int):=by rw[zR (by omega) (by omega)];omega
   by_cases hf:(d.members[i]).formula≠⟨#[]⟩∧(rdT (d.members[i]).formula).2.2≠0
   ·have hm:cL d i=some (rdT (d.members[i]).formula).2.2:=by unfold cL;rw[hx];simp only;rw[if_pos hf]
    rw[hm,if_neg hf.1];simp only[zB,decide_eq_false hf.2,BN,ze,AQ];rfl
   ·have gY:=P356_need hl hx hf;have eM:∀(k:Option (List Node)×Err->Option (LR (List (List Int)×Int) (List (List Int)×Int×Err))),k (if (d.members[i]).formula=⟨#[]⟩ then (none,.nil) else (some (rdT (d.members[i]).formula).1,zn (rdT (d.members[i]).formula).2.2))=k (if (d.members[i]).formula=⟨#[]⟩ then none else some (rdT (d.members[i]).formula).1,.nil):=by
     intro k;by_cases c:(d.members[i]).formula=⟨#[]⟩
     ·rw[if_pos c,if_pos c]
     ·have h1:(rdT (d.members[i]).formula).2.2=0:=Ba fun e=>hf ⟨c,e⟩;rw[if_neg c,if_neg c,h1];rfl
    have:=eM (fun y3=>br (!(Err.isNil y3.2)) (yk (some (([]:List (List Int)),(i:Int),y3.2))) (bno (P356 d (i:Int) y3.1) fun y4=>bno (P357 y4 (-1:Int)) fun y5=>br y5 (yk (some (([]:List (List Int)),(i:Int),Err.no (5:Int)))) (ck (decide (List.length ((List.range i).map (zbU d))+List.length ([y4]:List (List Int))<=zC)) <| nxO (some ((List.range i).map (zbU d)++([y4]:List (List Int)),wi ((i:Int)+(1:Int)))))));simp only at this;rw[this];have hnl:=ziA hl i;simp only[yC,AW,za,gY,zj,P357_eq _ _ (show (zbU d i).length<=9223372036854775807 by omega)];have hm:cL d i=if hasI (zbU d i) (-1)=true then some 5 else none:=by unfold cL;rw[hx];simp only;rw[if_neg hf]
    rw[hm];by_cases c:hasI (zbU d i) (-1)=true
    ·rw[c];rfl
    ·rw[BZ] at c;rw[c];simp only[za,Au,if_false,Ca];rw[zm (by rw[Aq,BQ];simp only[Bj];unfold zC;omega),e4,Cb,Bc]
     rfl) (fun _=>by
   simp only[zhP];rw[zJ,if_neg (by omega)]
   rfl)
  have e0:(([]:List (List Int)),(0:Int))=((List.range 0).map (zbU d),((0:Nat):Int)):=rfl;rw[zW,e0,L1,qC];cases hs:(List.range d.members.length).findSome? (fun i=>(cL d i).map fun e=>((i:Int),e)) with
  | some r =>have hr:r.2≠0:=(by obtain⟨i,_,hi⟩:=AO hs;obtain⟨e,he,rfl⟩:=Ag.1 hi;exact nY he);simp only[AQ,jn_r,if_neg hr]
  | none =>
   have b9:∀i,i<d.members.length->cL d i=none:=fun i hi=>(by have:=A9.1 hs i (AR.2 hi);simpa using this);have cD:=zhB b9;simp only[Ca,zY];have L2:=wK (B:=zhO P303 d (zcT d,(d.members.length:Int))) (fun i=>(i:Int)) d.members.length (fun i=>((zgD d i).map fun e=>((i:Int),e)).map fun r=>(([]:List (List Int)),r.1,zn r.2)) (d:=((d.members.length:Nat):Int)) (fun i hi hg=>by
    simp only[zhO];have e4:wi ((i:Int)+1)=((i+1:Nat):Int):=by rw[zR (by omega) (by omega)];omega
    obtain⟨b,hb⟩:=zcn cD i;rw[zJ,if_pos (by omega),P303_eq hl cD hi,hb];simp only[zj];unfold zgD;rw[hb];cases b with
    | true=>rfl
    | false =>
     simp only[za,e4,DM,Au,if_false,Ca]
     rfl) (fun _=>by
    simp only[zhO];rw[zJ,if_neg (by omega)]
    rfl)
   rw[zW,show (0:Int)=((0:Nat):Int) from rfl,L2,qC];cases dN:(List.range d.members.length).findSome? (fun i=>(zgD d i).map fun e=>((i:Int),e)) with
   | some r =>
    have hr:r.2≠0:=by
     obtain⟨i,_,hi⟩:=AO dN;obtain⟨e,he,rfl⟩:=Ag.1 hi;unfold zgD at he;split at he
     ·cases he;show (8:Int)≠0;decide
     ·cases he
    simp only[AQ,jn_r];rw[if_neg (show ¬r.2=((0:Nat):Int) from hr)]
   | none=>rfl
 ·rw[show qQ d=qw d from if_pos h0,decide_eq_false h0,BN,ze,if_neg h0]
end
end
section
section
variable {n:List (List Int)} (hr:Rng n) (hn:n.length<=100000) (hw:∀i,(n.getD i []).length<=100000)
include hr hn hw
end
end
section
def zdR (d:Dim):(zcT d).length=d.members.length:=by unfold zcT;rw[Aq,BQ]
def zme {d:Dim} (h:(qQ d).2=0):d.members.length<=12∧Rng (zcT d)∧Acyc (zcT d):=by
 have h0:(qw d).2=0:=Ba fun h1=>(by rw[show qQ d=qw d from if_pos h1] at h;exact h1 h);have ok:=lB.1 h0;obtain⟨fP,hl⟩:=ok.len;rw[show qQ d=zbP d from if_neg (fun h=>h h0)] at h;unfold zbP at h;cases hs:(List.range d.members.length).findSome? (fun i=>(cL d i).map fun e=>((i:Int),e)) with
 | some r =>rw[hs] at h;obtain⟨i,_,hi⟩:=AO hs;obtain⟨e,he,rfl⟩:=Ag.1 hi;exact absurd h (nY he)
 | none =>
  rw[hs] at h;have b9:∀i,i<d.members.length->cL d i=none:=fun i hi=>(by have:=A9.1 hs i (AR.2 hi);simpa using this);have cD:=zhB b9;refine⟨hl,cD,fun i hi => ?_⟩;rw[zdR] at hi;obtain⟨b,hb⟩:=zcn cD i;cases b with
  | false=>exact zec cD hb
  | true =>
   cases dN:(List.range d.members.length).findSome? (fun i=>(zgD d i).map fun e=>((i:Int),e)) with
   | some r =>
    rw[dN] at h;obtain⟨j,_,hj⟩:=AO dN;obtain⟨e,he,rfl⟩:=Ag.1 hj;unfold zgD at he;split at he
    ·cases he;have h8:(8:Int)=0:=h;omega
    ·cases he
   | none =>have:=A9.1 dN i (AR.2 hi);unfold zgD at this;rw[if_pos hb] at this;cases this
def P315_eq (d:Dim):P315 d=some ((qQ d).1,zn (qQ d).2):=by simp only[P315,S315,P340_eq,zj]
end
end Ab
