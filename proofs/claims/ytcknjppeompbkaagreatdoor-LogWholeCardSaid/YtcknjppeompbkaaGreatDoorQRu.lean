/-
  Plain laws: whom each member of a dim needs, and what is wrong with it.
-/
import Derived.Test.YtcknjppeompbkaaGreatDoorK7
open Option (toList_some)
set_option linter.all false
noncomputable section
namespace Ab
open Go
def rdT_ex (s:ByteArray):∃ (l:List Node) (n e:Int),P247 s=some (l,n,e)∧P248 s=some (l,n,zp e)∧l.length<=30∧(e=0->FormOk l)∧0<=e:=by
 unfold P247 P248;by_cases hs:100 < s.size
 ·rw[if_pos hs,if_pos hs];exact ⟨[],0,4,rfl,rfl,by simp,fun e=>by omega,by omega⟩
 ·rw[if_neg hs,if_neg hs];obtain ⟨r,e⟩:=ziT (s:=s) (by omega);rw[e,show rd s 404 (.row true) 0 []=some r from e];cases r with
  | bad b=>exact ⟨[],b,2,rfl,rfl,by simp,fun e=>by omega,by omega⟩
  | ok i b l =>
   simp only;by_cases hb:b < s.size
   ·rw[if_pos hb,if_pos hb];exact ⟨[],b,2,rfl,rfl,by simp,fun e=>by omega,by omega⟩
   ·rw[if_neg hb,if_neg hb,P240_eq,P241_eq];simp only[zq];by_cases h0:zdH l=0
    ·have ok:=form_ok.1 h0;refine ⟨l,0,0, ?_, ?_,ok.most,fun _=>ok,Int.le_refl _⟩
     ·rw[h0];rfl
     ·rw[h0];rfl
    ·have hp:0<=zdH l:=by
      unfold zdH;split
      ·omega
      split
      ·omega
      split
      ·rename_i e he;obtain ⟨i,_,hi⟩:=AW he;unfold jx at hi;split at hi
       ·split at hi
        ·cases hi
        ·cases hi;unfold qO
         repeat' split
         all_goals omega
       ·cases hi
      ·split
       ·rename_i e he;obtain ⟨i,_,hi⟩:=AW he;unfold jW at hi;split at hi
        ·cases hi
        ·cases hi;omega
       ·omega
     refine ⟨[],0,zdH l, ?_, ?_,by simp,fun e=>absurd e h0,hp⟩
     ·rw[if_neg h0]
     ·rw[zT,if_neg (by simpa using h0)]
def rdT (s:ByteArray):List Node×Int×Int:=(P247 s).getD ([],0,0)
def P248_eq (s:ByteArray):P248 s=some ((rdT s).1,(rdT s).2.1,zp (rdT s).2.2):=by obtain ⟨l,n,e,h1,h2,_⟩:=rdT_ex s;unfold rdT;rw[h1,h2];rfl
def rdT_ok {s:ByteArray} (h:(rdT s).2.2=0):FormOk (rdT s).1:=by obtain ⟨l,n,e,h1,_,_,h4,_⟩:=rdT_ex s;unfold rdT at h ⊢;rw[h1] at h ⊢;exact h4 h
def rdT_len (s:ByteArray):(rdT s).1.length<=30:=by obtain ⟨l,n,e,h1,_,h3,_⟩:=rdT_ex s;unfold rdT;rw[h1];exact h3
def hasI (l:List Int) (n:Int):Bool:=l.any fun y=>decide (y=n)
def nU {l:List Int} {n:Int}:hasI l n=true↔n∈l:=by simp[hasI]
def P362_eq (l:List Int) (n:Int) (h:l.length<=9223372036854775807):P362 l n=some (idxOf (fun y=>decide (y=n)) l):=by
 refine kI _ l (fun i y hy => ?_) (by simp[zhF]);have hi:=(Aa.1 hy).1;have e:(((i:Nat):Int) < ((l.length:Nat):Int)):=by omega
 simp only[zhF,zn,hy,zq,e,decide_true,zw];rw[ww (by omega) (by omega)];by_cases c:y=n
 ·simp[c]
 ·have c':¬ n=y:=fun e=>c e.symm;simp[c,c']
def P357_eq (l:List Int) (n:Int) (h:l.length<=9223372036854775807):P357 l n=some (hasI l n):=by simp only[P357,S357,P362_eq l n h,zq];congr 1;exact zfb _ _
def compI_len (l:List Int):(zgh l).length<=l.length:=by unfold zgh Lib.compact Lib.compactUpTo;rw[Ar];exact AH (Bs _ _) (by simp)
def setI_len (l:List Int):(setI l).length<=l.length:=by have:=compI_len (zco l);rw[yi] at this;exact this
def zft {l:List Int} (h:l.length<=1000000):(bno (P213 l) fun fi=>ck (decide (List.length fi=List.length l)) <| bno (P302 fi) fun iz=>some iz)=some (setI l):=by unfold P213 P302;rw[zL (by unfold qB;omega)];simp only[zq];rw[zL (yi l),zL (by rw[yi];unfold qB;omega)];rfl
def zim {α:Type} {b:Bool} (h:b=true) (x:Option α):ck b x=x:=by rw[h];rfl
section
variable {d:Dim}
def cntP2 (d:Dim) (i:Int):List Int:=(partsOf d.members i).filter fun k=>decide (¬ sgn d.members k=0)
def zhV {i x:Int} (h:x∈partsOf d.members i):∃ k:Nat,x=k∧k < d.members.length:=by obtain ⟨k,e,hk,_⟩:=nY.1 h;exact ⟨k,e,hk⟩
def zdC {l:List Node} {i:Nat} {x:Node} (h:l[i]? = some x):zgz (l.take (i+1))=zgz (l.take i)++(if x.op=2 then [x.name] else []):=by rw[CE,h,refL_app];congr 1;unfold zgz;by_cases c:x.op=2<;>simp[c]
def zdZ (hl:d.members.length<=1000) {l:List Node} (pr:l.length<=1000) (a2:Option (List Node)) (ha:Option.getD a2 []=l):lpO (zdv P37 d a2) (([]:List Int),(0:Int))=some (.inl ((zgz l).map (wq d.members),(l.length:Int))):=by
 have hs:=qS (B:=zdv P37 d a2) (fun i=>((zgz (l.take i)).map (wq d.members),(i:Int))) l.length (fun i hi=>by
  have hx:=Ac hi;simp only[zdv,ha];rw[zO,if_pos (by omega)];simp only[zn,hx,zq];have e4:wi ((i:Int)+1)=((i+1:Nat):Int):=by rw[ww (by omega) (by omega)];omega
  rw[zdC hx,zO];have hb:(zgz (l.take i)).length<=1000:=AH (zeu _) (by rw[AY];omega);by_cases c:l[i].op=2
  ·rw[if_pos c,P37_eq _ _ (by omega),if_pos c];simp only[zq];rw[zL (by rw[Ar];simp only[BB];unfold qB;omega)];simp only[qp,yR,e4,Bl,An,A3];rfl
  ·rw[if_neg c,if_neg c];simp only[qp,yR,e4,BN]
   rfl)
 rw[show (([]:List Int),(0:Int))=((zgz (l.take 0)).map (wq d.members),((0:Nat):Int)) by rw[B7];rfl,hs,Cg];refine jt ?_;simp only[zdv,ha];rw[zO,if_neg (by omega)];rfl
def P356_some (hl:d.members.length<=1000) {l:List Node} (ah:l≠[]) (pr:l.length<=1000) (i:Int):P356 d i (some l)=some (setI ((zgz l).map (wq d.members))):=by simp only[P356,S356,wc,zdZ hl pr (some l) rfl,yR];rw[zim (by cases l with | nil=>exact absurd rfl ah | cons=>rfl)];simp only[Option.isNone_some,zi,qp,yR];exact zft (by rw[Ar];exact AH (zeu _) (by omega))
def ziU (hl:d.members.length<=1000) (ps:List Int) (hp:∀ x∈ps,∃ k:Nat,x=k∧k < d.members.length) (hn:ps.length<=1000):lpO (zdu d ps) (([]:List Int),(0:Int))=some (.inl (ps.filter (fun k=>decide (¬ sgn d.members k=0)),(ps.length:Int))):=by
 have hs:=qS (B:=zdu d ps) (fun i=>((ps.take i).filter (fun k=>decide (¬ sgn d.members k=0)),(i:Int))) ps.length (fun i hi=>by
  have hx:=Ac hi;obtain ⟨k,hk,ic⟩:=hp _ (Be hi);have hm:=Ac ic;simp only[zdu];rw[zO,if_pos (by omega)];have e4:wi ((i:Int)+1)=((i+1:Nat):Int):=by rw[ww (by omega) (by omega)];omega
  have hb:((ps.take i).filter (fun k=>decide (¬ sgn d.members k=0))).length<=1000:=AH (Bs _ _) (by rw[AY];omega);have oL:sgn d.members ps[i]=(d.members[k]).sign:=by unfold sgn;rw[hk,Bw,hm]
  simp only[zn,hx,zq];rw[show qb d.members ps[i]=some d.members[k] by rw[hk,zn,hm]];simp only[zq];rw[CE,hx,CC,zO];by_cases c:(d.members[k]).sign=0
  ·rw[if_neg (by simpa using c)];simp only[qp,yR,e4,toList_some];rw[List.filter_cons_of_neg (by rw[oL];simpa using c)];simp
  ·rw[if_pos c,zL (by simp only[BB];unfold qB;omega)];simp only[qp,yR,e4,toList_some];rw[List.filter_cons_of_pos (by rw[oL];simpa using c)]
   rfl)
 rw[show (([]:List Int),(0:Int))=((ps.take 0).filter (fun k=>decide (¬ sgn d.members k=0)),((0:Nat):Int)) by rw[B7];rfl,hs,Cg];refine jt ?_;simp only[zdu];rw[zO,if_neg (by omega)];rfl
def P356_none (hl:d.members.length<=1000) (i:Int):P356 d i none=some (setI (cntP2 d i)):=by simp only[P356,S356,wc,zdZ hl (l:=[]) (by simp) none rfl,yR];rw[zim rfl];have ft:(partsOf d.members i).length<=1000:=AH (zeO _ _) hl;simp only[Option.isNone_none,zw,P47_eq hl,zq];rw[show (zgz []).map (wq d.members)=([]:List Int) from rfl,ziU hl _ (fun x hx=>zhV hx) ft];simp only[yR,qp];exact zft (AH (Bs _ _) (by omega))
def rawN (d:Dim) (i:Nat):List Int:=match d.members[i]? with
 | some m=>if m.formula=⟨#[]⟩ then cntP2 d i else (zgz (rdT m.formula).1).map (wq d.members)
 | none=>[]
def zaR (d:Dim) (i:Nat):List Int:=setI (rawN d i)
def cY (d:Dim) (i:Nat):Option Int:=match d.members[i]? with
 | some m=>if m.formula≠⟨#[]⟩∧(rdT m.formula).2.2≠0 then some (rdT m.formula).2.2 else if hasI (zaR d i) (-1)=true then some 5 else none
 | none=>none
def zfn (d:Dim):List (List Int):=(List.range d.members.length).map (zaR d)
def ziS (d:Dim) (i:Nat):Option Int:=if zeo (zfn d) i=some true then some 8 else none
def zfz (d:Dim):Int×Int :=
  match (List.range d.members.length).findSome? fun i=>(cY d i).map fun e=>((i:Int),e) with
  | some r=>r
  | none=>match (List.range d.members.length).findSome? fun i=>(ziS d i).map fun e=>((i:Int),e) with
   | some r=>r
   | none=>(-1,0)
def yj (d:Dim):Int×Int:=if ¬ (qD d).2=0 then qD d else zfz d
def P355_eq {i:Nat} {m:Member} (h:d.members[i]? = some m):P355 d (i:Int)=some (if m.formula=⟨#[]⟩ then (none,.nil) else (some (rdT m.formula).1,zp (rdT m.formula).2.2)):=by
 simp only[P355,S355,zn,h,zq,P248_eq];rw[zO]
 split<;>rfl
def rawN_len (hl:d.members.length<=12) (i:Nat):(rawN d i).length<=30:=by
 unfold rawN;split
 ·split
  ·exact AH (Bs _ _) (AH (zeO _ _) (by omega))
  ·rw[Ar];exact AH (zeu _) (rdT_len _)
 ·simp
def zfS (hl:d.members.length<=12) (i:Nat):(zaR d i).length<=30:=AH (setI_len _) (rawN_len hl i)
def P356_need (hl:d.members.length<=12) {i:Nat} {m:Member} (h:d.members[i]? = some m) (hf:¬ (m.formula≠⟨#[]⟩∧(rdT m.formula).2.2≠0)) :
  P356 d (i:Int) (if m.formula=⟨#[]⟩ then none else some (rdT m.formula).1)=some (zaR d i):=by
 unfold zaR rawN;rw[h];simp only;by_cases c:m.formula=⟨#[]⟩
 ·rw[if_pos c,if_pos c,P356_none (by omega)]
 ·have h0:(rdT m.formula).2.2=0:=Classical.byContradiction fun e=>hf ⟨c,e⟩;have ok:=rdT_ok h0;have ah:(rdT m.formula).1≠[]:=fun e=>by have:=ok.pos;rw[e] at this;simp at this
  rw[if_neg c,if_neg c,P356_some (by omega) ah (AH (rdT_len _) (by omega))]
def memF_none {i:Nat} {m:Member} (h:d.members[i]? = some m) (hn:cY d i=none):¬ (m.formula≠⟨#[]⟩∧(rdT m.formula).2.2≠0)∧hasI (zaR d i) (-1)=false:=by
 unfold cY at hn;rw[h] at hn;simp only at hn;split at hn
 ·cases hn
 ·rename_i c;split at hn
  ·cases hn
  ·rename_i c2;exact ⟨c,Bool.eq_false_iff.2 c2⟩
def zfp (l:List Member) (s:ByteArray) : -1<=wq l s∧wq l s < l.length:=by
 unfold wq idxOf;split
 ·rename_i i hi;have:=(List.findIdx?_eq_some_iff_getElem.1 hi).1;omega
 ·omega
def zit (hn:∀ i,i < d.members.length->cY d i=none):Rng (zfn d):=by
 intro i k hk;unfold zfn at hk ⊢;rw[Ar,BO];by_cases hi:i < d.members.length
 ·have hx:=Ac hi;simp only[AF,Aw,Cu hi,AE,A5] at hk;obtain ⟨h1,h2⟩:=memF_none hx (hn i hi);have h3:k ≠ -1:=fun e=>(by rw[e] at hk;rw[nU.2 hk] at h2;cases h2);have cN:k∈rawN d i:=(zgS _).2 k |>.1 hk;unfold rawN at cN;rw[hx] at cN;simp only at cN;split at cN
  ·obtain ⟨k',rfl,au⟩:=zhV (BF.1 cN).1;omega
  ·obtain ⟨s,_,rfl⟩:=Ap.1 cN;have:=zfp d.members s;omega
 ·simp only[AF,Aw,BC (show (List.range d.members.length).length<=i by rw[BO];omega),BE,Option.getD_none] at hk;cases hk
def allN_get {i:Nat} (hi:i < d.members.length):(zfn d)[i]? = some (zaR d i):=by unfold zfn;rw[Aw,Cu hi];rfl
def memF_ne {i:Nat} {e:Int} (h:cY d i=some e):e≠0:=by
 unfold cY at h;split at h
 ·split at h
  ·rename_i c;cases h;exact c.2
  ·split at h
   ·cases h;decide
   ·cases h
 ·cases h
def P303_eq (hl:d.members.length<=12) (hr:Rng (zfn d)) {i:Nat} (hi:i < d.members.length):P303 (zfn d) (i:Int)=zeo (zfn d) i:=by
 unfold P303;rw[if_pos,Bw];refine ⟨hr,by omega,by unfold zfn;rw[Ar,BO];omega,by unfold zfn;rw[Ar,BO];omega,fun k => ?_⟩;unfold zfn;simp only[AF,Aw];by_cases hk:k < d.members.length
 ·rw[Cu hk];exact AH (zfS hl k) (by omega)
 ·rw[BC (by rw[BO];omega)];simp
def P340_eq (d:Dim):P340 d=some (if (yj d).2=0 then zfn d else [],(yj d).1,zp (yj d).2):=by
 simp only[P340,S340,P15_eq,zq,zT];by_cases h0:(qD d).2=0
 ·have ok:=zih.1 h0;obtain ⟨e9,hl⟩:=ok.len;rw[show yj d=zfz d from if_neg (fun h=>h h0)];unfold zfz;rw[decide_eq_true h0,Bf,zi];have L1:=yD (B:=zff P355 P356 P357 d) (fun i=>((List.range i).map (zaR d),(i:Int))) d.members.length (fun i=>((cY d i).map fun e=>((i:Int),e)).map fun r=>(([]:List (List Int)),r.1,zp r.2)) (d:=(zfn d,(d.members.length:Int))) (fun i hi hg=>by
   have hx:=Ac hi;simp only[zff];rw[zO,if_pos (by omega),P355_eq hx];simp only[zq];have e4:wi ((i:Int)+1)=((i+1:Nat):Int):=by rw[ww (by omega) (by omega)];omega
   by_cases hf:(d.members[i]).formula≠⟨#[]⟩∧(rdT (d.members[i]).formula).2.2≠0
   ·have hm:cY d i=some (rdT (d.members[i]).formula).2.2:=by unfold cY;rw[hx];simp only;rw[if_pos hf]
    rw[hm,if_neg hf.1];simp only[zT,decide_eq_false hf.2,BV,zw,AE];rfl
   ·have hn2:=P356_need hl hx hf;have cI:∀ (k:Option (List Node)×Err->Option (LR (List (List Int)×Int) (List (List Int)×Int×Err))),k (if (d.members[i]).formula=⟨#[]⟩ then (none,.nil) else (some (rdT (d.members[i]).formula).1,zp (rdT (d.members[i]).formula).2.2))=k (if (d.members[i]).formula=⟨#[]⟩ then none else some (rdT (d.members[i]).formula).1,.nil):=by
     intro k;by_cases c:(d.members[i]).formula=⟨#[]⟩
     ·rw[if_pos c,if_pos c]
     ·have h1:(rdT (d.members[i]).formula).2.2=0:=Classical.byContradiction fun e=>hf ⟨c,e⟩;rw[if_neg c,if_neg c,h1];rfl
    have:=cI (fun y3=>br (!(Err.isNil y3.2)) (wj (some (([]:List (List Int)),(i:Int),y3.2))) (bno (P356 d (i:Int) y3.1) fun y4=>bno (P357 y4 (-1:Int)) fun y5=>br y5 (wj (some (([]:List (List Int)),(i:Int),Err.no (5:Int)))) (ck (decide (List.length ((List.range i).map (zaR d))+List.length ([y4]:List (List Int))<=qB)) <| nxO (some ((List.range i).map (zaR d)++([y4]:List (List Int)),wi ((i:Int)+(1:Int)))))));simp only at this;rw[this];have hnl:=zfS hl i;simp only[zcC,Bf,zi,hn2,zq,P357_eq _ _ (show (zaR d i).length<=9223372036854775807 by omega)];have hm:cY d i=if hasI (zaR d i) (-1)=true then some 5 else none:=by unfold cY;rw[hx];simp only;rw[if_neg hf]
    rw[hm];by_cases c:hasI (zaR d i) (-1)=true
    ·rw[c];rfl
    ·rw[BZ] at c;rw[c];simp only[zi,Am,if_false,BE];rw[zL (by rw[Ar,BO];simp only[BB];unfold qB;omega),e4,Ck,Bl]
     rfl) (fun _=>by
   simp only[zff];rw[zO,if_neg (by omega)]
   rfl)
  have e0:(([]:List (List Int)),(0:Int))=((List.range 0).map (zaR d),((0:Nat):Int)):=rfl;rw[wc,e0,L1,qt];cases hs:(List.range d.members.length).findSome? (fun i=>(cY d i).map fun e=>((i:Int),e)) with
  | some r =>have hr:r.2≠0:=(by obtain ⟨i,_,hi⟩:=AW hs;obtain ⟨e,he,rfl⟩:=Ag.1 hi;exact memF_ne he);simp only[AE,jn_r,if_neg hr]
  | none =>
   have ct:∀ i,i < d.members.length->cY d i=none:=fun i hi=>(by have:=Bp.1 hs i (Bc.2 hi);simpa using this);have dh:=zit ct;simp only[BE,yR];have L2:=yD (B:=zfe P303 d (zfn d,(d.members.length:Int))) (fun i=>(i:Int)) d.members.length (fun i=>((ziS d i).map fun e=>((i:Int),e)).map fun r=>(([]:List (List Int)),r.1,zp r.2)) (d:=((d.members.length:Nat):Int)) (fun i hi hg=>by
    simp only[zfe];have e4:wi ((i:Int)+1)=((i+1:Nat):Int):=by rw[ww (by omega) (by omega)];omega
    obtain ⟨b,hb⟩:=zdR dh i;rw[zO,if_pos (by omega),P303_eq hl dh hi,hb];simp only[zq];unfold ziS;rw[hb];cases b with
    | true=>rfl
    | false =>
     simp only[zi,e4,Option.some.injEq,Am,if_false,BE]
     rfl) (fun _=>by
    simp only[zfe];rw[zO,if_neg (by omega)]
    rfl)
   rw[wc,show (0:Int)=((0:Nat):Int) from rfl,L2,qt];cases e8:(List.range d.members.length).findSome? (fun i=>(ziS d i).map fun e=>((i:Int),e)) with
   | some r =>
    have hr:r.2≠0:=by
     obtain ⟨i,_,hi⟩:=AW e8;obtain ⟨e,he,rfl⟩:=Ag.1 hi;unfold ziS at he;split at he
     ·cases he;show (8:Int)≠0;decide
     ·cases he
    simp only[AE,jn_r];rw[if_neg (show ¬ r.2=((0:Nat):Int) from hr)]
   | none=>rfl
 ·rw[show yj d=qD d from if_pos h0,decide_eq_false h0,BV,zw,if_neg h0]
end
end Ab
