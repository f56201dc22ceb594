import Derived.Test.YtkaifdgeigdbhaaGreatDoorC9
open Option (toList_some)
set_option linter.all false
noncomputable section
namespace Ab
open Go
section
def rdT_ex (s:ByteArray):∃ (l:List Node) (n e:Int),P247 s=some (l,n,e)∧P248 s=some (l,n,zm e)∧l.length<=30∧(e=0->FormOk l)∧0<=e:=by
 unfold P247 P248;by_cases hs:100 < s.size
 ·rw[if_pos hs,if_pos hs];exact ⟨[],0,4,rfl,rfl,by simp,fun e=>by omega,by omega⟩
 ·rw[if_neg hs,if_neg hs];obtain ⟨r,e⟩:=zjn (s:=s) (by omega);rw[e,show rd s 404 (.row true) 0 []=some r from e];cases r with
  | bad b=>exact ⟨[],b,2,rfl,rfl,by simp,fun e=>by omega,by omega⟩
  | ok i b l =>
   simp only;by_cases hb:b < s.size
   ·rw[if_pos hb,if_pos hb];exact ⟨[],b,2,rfl,rfl,by simp,fun e=>by omega,by omega⟩
   ·rw[if_neg hb,if_neg hb,P240_eq,P241_eq];simp only[zk];by_cases h0:zdY l=0
    ·have ok:=form_ok.1 h0;refine ⟨l,0,0, ?_, ?_,ok.most,fun _=>ok,Int.le_refl _⟩
     ·rw[h0];rfl
     ·rw[h0];rfl
    ·have hp:0<=zdY l:=by
      unfold zdY;split
      ·omega
      split
      ·omega
      split
      ·rename_i e he;obtain ⟨i,_,hi⟩:=AW he;unfold ju at hi;split at hi
       ·split at hi
        ·cases hi
        ·cases hi;unfold qF
         repeat' split
         all_goals omega
       ·cases hi
      ·split
       ·rename_i e he;obtain ⟨i,_,hi⟩:=AW he;unfold jL at hi;split at hi
        ·cases hi
        ·cases hi;omega
       ·omega
     refine ⟨[],0,zdY l, ?_, ?_,by simp,fun e=>absurd e h0,hp⟩
     ·rw[if_neg h0]
     ·rw[zF,if_neg (by simpa using h0)]
def rdT (s:ByteArray):List Node×Int×Int:=(P247 s).getD ([],0,0)
def P248_eq (s:ByteArray):P248 s=some ((rdT s).1,(rdT s).2.1,zm (rdT s).2.2):=by obtain ⟨l,n,e,h1,h2,_⟩:=rdT_ex s;unfold rdT;rw[h1,h2];rfl
def rdT_ok {s:ByteArray} (h:(rdT s).2.2=0):FormOk (rdT s).1:=by obtain ⟨l,n,e,h1,_,_,h4,_⟩:=rdT_ex s;unfold rdT at h ⊢;rw[h1] at h ⊢;exact h4 h
def rdT_len (s:ByteArray):(rdT s).1.length<=30:=by obtain ⟨l,n,e,h1,_,h3,_⟩:=rdT_ex s;unfold rdT;rw[h1];exact h3
def hasI (l:List Int) (n:Int):Bool:=l.any fun y=>decide (y=n)
def ziA {l:List Int} {n:Int}:hasI l n=true↔n∈l:=by simp[hasI]
def P362_eq (l:List Int) (n:Int) (h:l.length<=9223372036854775807):P362 l n=some (idxOf (fun y=>decide (y=n)) l):=by
 refine kx _ l (fun i y hy => ?_) (by simp[ld]);have hi:=(Ac.1 hy).1;have e:(((i:Nat):Int) < ((l.length:Nat):Int)):=by omega
 simp only[ld,zi,hy,zk,e,decide_true,zh];rw[zN (by omega) (by omega)];by_cases c:y=n
 ·simp[c]
 ·have c':¬ n=y:=fun e=>c e.symm;simp[c,c']
def P357_eq (l:List Int) (n:Int) (h:l.length<=9223372036854775807):P357 l n=some (hasI l n):=by simp only[P357,S357,P362_eq l n h,zk];congr 1;exact zfs _ _
def compI_len (l:List Int):(zgP l).length<=l.length:=by unfold zgP Lib.compact Lib.compactUpTo;rw[An];exact AY (Br _ _) (by simp)
def setI_len (l:List Int):(setI l).length<=l.length:=by have:=compI_len (zcI l);rw[yh] at this;exact this
def zfU {l:List Int} (h:l.length<=1000000):(bno (P213 l) fun cA=>ck (decide (List.length cA=List.length l)) <| bno (P302 cA) fun eG=>some eG)=some (setI l):=by unfold P213 P302;rw[zy (by unfold zX;omega)];simp only[zk];rw[zy (yh l),zy (by rw[yh];unfold zX;omega)];rfl
def ziS {α:Type} {b:Bool} (h:b=true) (x:Option α):ck b x=x:=by rw[h];rfl
section
variable {d:Dim}
def cntP2 (d:Dim) (i:Int):List Int:=(partsOf d.members i).filter fun k=>decide (¬ sgn d.members k=0)
def zin {i x:Int} (h:x∈partsOf d.members i):∃ k:Nat,x=k∧k < d.members.length:=by obtain ⟨k,e,hk,_⟩:=ziu.1 h;exact ⟨k,e,hk⟩
def zdS {l:List Node} {i:Nat} {x:Node} (h:l[i]? = some x):cy (l.take (i+1))=cy (l.take i)++(if x.op=2 then [x.name] else []):=by rw[Bo,h,refL_app];congr 1;unfold cy;by_cases c:x.op=2<;>simp[c]
def zef (hl:d.members.length<=1000) {l:List Node} (oS:l.length<=1000) (a2:Option (List Node)) (ha:Option.getD a2 []=l):lpO (zdF P37 d a2) (([]:List Int),(0:Int))=some (.inl ((cy l).map (wm d.members),(l.length:Int))):=by
 have hs:=qr (B:=zdF P37 d a2) (fun i=>((cy (l.take i)).map (wm d.members),(i:Int))) l.length (fun i hi=>by
  have hx:=Aa hi;simp only[zdF,ha];rw[qn,if_pos (by omega)];simp only[zi,hx,zk];have e4:wi ((i:Int)+1)=((i+1:Nat):Int):=by rw[zN (by omega) (by omega)];omega
  rw[zdS hx,qn];have hb:(cy (l.take i)).length<=1000:=AY (zeI _) (by rw[B4];omega);by_cases c:l[i].op=2
  ·rw[if_pos c,P37_eq _ _ (by omega),if_pos c];simp only[zk];rw[zy (by rw[An];simp only[BA];unfold zX;omega)];simp only[zx,z8,e4,Bb,Ar,Bc];rfl
  ·rw[if_neg c,if_neg c];simp only[zx,z8,e4,Bg]
   rfl)
 rw[show (([]:List Int),(0:Int))=((cy (l.take 0)).map (wm d.members),((0:Nat):Int)) by rw[BR];rfl,hs,BS];refine zB ?_;simp only[zdF,ha];rw[qn,if_neg (by omega)];rfl
def P356_some (hl:d.members.length<=1000) {l:List Node} (ah:l≠[]) (oS:l.length<=1000) (i:Int):P356 d i (some l)=some (setI ((cy l).map (wm d.members))):=by simp only[P356,S356,qe,zef hl oS (some l) rfl,z8];rw[ziS (by cases l with | nil=>exact absurd rfl ah | cons=>rfl)];simp only[Option.isNone_some,za,zx,z8];exact zfU (by rw[An];exact AY (zeI _) (by omega))
def zjo (hl:d.members.length<=1000) (ps:List Int) (hp:∀ x∈ps,∃ k:Nat,x=k∧k < d.members.length) (hn:ps.length<=1000):lpO (zdE d ps) (([]:List Int),(0:Int))=some (.inl (ps.filter (fun k=>decide (¬ sgn d.members k=0)),(ps.length:Int))):=by
 have hs:=qr (B:=zdE d ps) (fun i=>((ps.take i).filter (fun k=>decide (¬ sgn d.members k=0)),(i:Int))) ps.length (fun i hi=>by
  have hx:=Aa hi;obtain ⟨k,hk,eW⟩:=hp _ (AO hi);have hm:=Aa eW;simp only[zdE];rw[qn,if_pos (by omega)];have e4:wi ((i:Int)+1)=((i+1:Nat):Int):=by rw[zN (by omega) (by omega)];omega
  have hb:((ps.take i).filter (fun k=>decide (¬ sgn d.members k=0))).length<=1000:=AY (Br _ _) (by rw[B4];omega);have n5:sgn d.members ps[i]=(d.members[k]).sign:=by unfold sgn;rw[hk,AG,hm]
  simp only[zi,hx,zk];rw[show zA d.members ps[i]=some d.members[k] by rw[hk,zi,hm]];simp only[zk];rw[Bo,hx,Cs,qn];by_cases c:(d.members[k]).sign=0
  ·rw[if_neg (by simpa using c)];simp only[zx,z8,e4,toList_some];rw[List.filter_cons_of_neg (by rw[n5];simpa using c)];simp
  ·rw[if_pos c,zy (by simp only[BA];unfold zX;omega)];simp only[zx,z8,e4,toList_some];rw[List.filter_cons_of_pos (by rw[n5];simpa using c)]
   rfl)
 rw[show (([]:List Int),(0:Int))=((ps.take 0).filter (fun k=>decide (¬ sgn d.members k=0)),((0:Nat):Int)) by rw[BR];rfl,hs,BS];refine zB ?_;simp only[zdE];rw[qn,if_neg (by omega)];rfl
def P356_none (hl:d.members.length<=1000) (i:Int):P356 d i none=some (setI (cntP2 d i)):=by simp only[P356,S356,qe,zef hl (l:=[]) (by simp) none rfl,z8];rw[ziS rfl];have eK:(partsOf d.members i).length<=1000:=AY (zct _ _) hl;simp only[Option.isNone_none,zh,P47_eq hl,zk];rw[show (cy []).map (wm d.members)=([]:List Int) from rfl,zjo hl _ (fun x hx=>zin hx) eK];simp only[z8,zx];exact zfU (AY (Br _ _) (by omega))
def rawN (d:Dim) (i:Nat):List Int:=match d.members[i]? with
 | some m=>if m.formula=⟨#[]⟩ then cntP2 d i else (cy (rdT m.formula).1).map (wm d.members)
 | none=>[]
def zaT (d:Dim) (i:Nat):List Int:=setI (rawN d i)
def zhB (d:Dim) (i:Nat):Option Int:=match d.members[i]? with
 | some m=>if m.formula≠⟨#[]⟩∧(rdT m.formula).2.2≠0 then some (rdT m.formula).2.2 else if hasI (zaT d i) (-1)=true then some 5 else none
 | none=>none
def zfN (d:Dim):List (List Int):=(List.range d.members.length).map (zaT d)
def zjm (d:Dim) (i:Nat):Option Int:=if zeC (zfN d) i=some true then some 8 else none
def gN (d:Dim):Int×Int :=
  match (List.range d.members.length).findSome? fun i=>(zhB d i).map fun e=>((i:Int),e) with
  | some r=>r
  | none=>match (List.range d.members.length).findSome? fun i=>(zjm d i).map fun e=>((i:Int),e) with
   | some r=>r
   | none=>(-1,0)
def yi (d:Dim):Int×Int:=if ¬ (qu d).2=0 then qu d else gN d
def P355_eq {i:Nat} {m:Member} (h:d.members[i]? = some m):P355 d (i:Int)=some (if m.formula=⟨#[]⟩ then (none,.nil) else (some (rdT m.formula).1,zm (rdT m.formula).2.2)):=by
 simp only[P355,S355,zi,h,zk,P248_eq];rw[qn]
 split<;>rfl
def rawN_len (hl:d.members.length<=12) (i:Nat):(rawN d i).length<=30:=by
 unfold rawN;split
 ·split
  ·exact AY (Br _ _) (AY (zct _ _) (by omega))
  ·rw[An];exact AY (zeI _) (rdT_len _)
 ·simp
def zgk (hl:d.members.length<=12) (i:Nat):(zaT d i).length<=30:=AY (setI_len _) (rawN_len hl i)
def P356_need (hl:d.members.length<=12) {i:Nat} {m:Member} (h:d.members[i]? = some m) (hf:¬ (m.formula≠⟨#[]⟩∧(rdT m.formula).2.2≠0)) :
  P356 d (i:Int) (if m.formula=⟨#[]⟩ then none else some (rdT m.formula).1)=some (zaT d i):=by
 unfold zaT rawN;rw[h];simp only;by_cases c:m.formula=⟨#[]⟩
 ·rw[if_pos c,if_pos c,P356_none (by omega)]
 ·have h0:(rdT m.formula).2.2=0:=Cz fun e=>hf ⟨c,e⟩;have ok:=rdT_ok h0;have ah:(rdT m.formula).1≠[]:=fun e=>by have:=ok.pos;rw[e] at this;simp at this
  rw[if_neg c,if_neg c,P356_some (by omega) ah (AY (rdT_len _) (by omega))]
def memF_none {i:Nat} {m:Member} (h:d.members[i]? = some m) (hn:zhB d i=none):¬ (m.formula≠⟨#[]⟩∧(rdT m.formula).2.2≠0)∧hasI (zaT d i) (-1)=false:=by
 unfold zhB at hn;rw[h] at hn;simp only at hn;split at hn
 ·cases hn
 ·rename_i c;split at hn
  ·cases hn
  ·rename_i c2;exact ⟨c,Bool.eq_false_iff.2 c2⟩
def zfP (l:List Member) (s:ByteArray) : -1<=wm l s∧wm l s < l.length:=by
 unfold wm idxOf;split
 ·rename_i i hi;have:=(BJ.1 hi).1;omega
 ·omega
def ziX (hn:∀ i,i < d.members.length->zhB d i=none):Rng (zfN d):=by
 intro i k hk;unfold zfN at hk ⊢;rw[An,Bp];by_cases hi:i < d.members.length
 ·have hx:=Aa hi;simp only[Aw,As,CZ hi,AH,A7] at hk;obtain ⟨h1,h2⟩:=memF_none hx (hn i hi);have h3:k ≠ -1:=fun e=>(by rw[e] at hk;rw[ziA.2 hk] at h2;cases h2);have bu:k∈rawN d i:=(zhn _).2 k |>.1 hk;unfold rawN at bu;rw[hx] at bu;simp only at bu;split at bu
  ·obtain ⟨k',rfl,au⟩:=zin (Bz.1 bu).1;omega
  ·obtain ⟨s,_,rfl⟩:=Am.1 bu;have:=zfP d.members s;omega
 ·simp only[Aw,As,Ba (show (List.range d.members.length).length<=i by rw[Bp];omega),BL,Option.getD_none] at hk;cases hk
def allN_get {i:Nat} (hi:i < d.members.length):(zfN d)[i]? = some (zaT d i):=by unfold zfN;rw[As,CZ hi];rfl
def memF_ne {i:Nat} {e:Int} (h:zhB d i=some e):e≠0:=by
 unfold zhB at h;split at h
 ·split at h
  ·rename_i c;cases h;exact c.2
  ·split at h
   ·cases h;decide
   ·cases h
 ·cases h
def P303_eq (hl:d.members.length<=12) (hr:Rng (zfN d)) {i:Nat} (hi:i < d.members.length):P303 (zfN d) (i:Int)=zeC (zfN d) i:=by
 unfold P303;rw[if_pos,AG];refine ⟨hr,by omega,by unfold zfN;rw[An,Bp];omega,by unfold zfN;rw[An,Bp];omega,fun k => ?_⟩;unfold zfN;simp only[Aw,As];by_cases hk:k < d.members.length
 ·rw[CZ hk];exact AY (zgk hl k) (by omega)
 ·rw[Ba (by rw[Bp];omega)];simp
def P340_eq (d:Dim):P340 d=some (if (yi d).2=0 then zfN d else [],(yi d).1,zm (yi d).2):=by
 simp only[P340,S340,P15_eq,zk,zF];by_cases h0:(qu d).2=0
 ·have ok:=ziM.1 h0;obtain ⟨eL,hl⟩:=ok.len;rw[show yi d=gN d from if_neg (fun h=>h h0)];unfold gN;rw[decide_eq_true h0,A8,za];have L1:=yD (B:=zfD P355 P356 P357 d) (fun i=>((List.range i).map (zaT d),(i:Int))) d.members.length (fun i=>((zhB d i).map fun e=>((i:Int),e)).map fun r=>(([]:List (List Int)),r.1,zm r.2)) (d:=(zfN d,(d.members.length:Int))) (fun i hi hg=>by
   have hx:=Aa hi;simp only[zfD];rw[qn,if_pos (by omega),P355_eq hx];simp only[zk];have e4:wi ((i:Int)+1)=((i+1:Nat):Int):=by rw[zN (by omega) (by omega)];omega
   by_cases hf:(d.members[i]).formula≠⟨#[]⟩∧(rdT (d.members[i]).formula).2.2≠0
   ·have hm:zhB d i=some (rdT (d.members[i]).formula).2.2:=by unfold zhB;rw[hx];simp only;rw[if_pos hf]
    rw[hm,if_neg hf.1];simp only[zF,decide_eq_false hf.2,B0,zh,AH];rfl
   ·have hn2:=P356_need hl hx hf;have cW:∀ (k:Option (List Node)×Err->Option (LR (List (List Int)×Int) (List (List Int)×Int×Err))),k (if (d.members[i]).formula=⟨#[]⟩ then (none,.nil) else (some (rdT (d.members[i]).formula).1,zm (rdT (d.members[i]).formula).2.2))=k (if (d.members[i]).formula=⟨#[]⟩ then none else some (rdT (d.members[i]).formula).1,.nil):=by
     intro k;by_cases c:(d.members[i]).formula=⟨#[]⟩
     ·rw[if_pos c,if_pos c]
     ·have h1:(rdT (d.members[i]).formula).2.2=0:=Cz fun e=>hf ⟨c,e⟩;rw[if_neg c,if_neg c,h1];rfl
    have:=cW (fun y3=>br (!(Err.isNil y3.2)) (ya (some (([]:List (List Int)),(i:Int),y3.2))) (bno (P356 d (i:Int) y3.1) fun y4=>bno (P357 y4 (-1:Int)) fun y5=>br y5 (ya (some (([]:List (List Int)),(i:Int),Err.no (5:Int)))) (ck (decide (List.length ((List.range i).map (zaT d))+List.length ([y4]:List (List Int))<=zX)) <| nxO (some ((List.range i).map (zaT d)++([y4]:List (List Int)),wi ((i:Int)+(1:Int)))))));simp only at this;rw[this];have hnl:=zgk hl i;simp only[yO,A8,za,hn2,zk,P357_eq _ _ (show (zaT d i).length<=9223372036854775807 by omega)];have hm:zhB d i=if hasI (zaT d i) (-1)=true then some 5 else none:=by unfold zhB;rw[hx];simp only;rw[if_neg hf]
    rw[hm];by_cases c:hasI (zaT d i) (-1)=true
    ·rw[c];rfl
    ·rw[B5] at c;rw[c];simp only[za,Aq,if_false,BL];rw[zy (by rw[An,Bp];simp only[BA];unfold zX;omega),e4,BW,Bb]
     rfl) (fun _=>by
   simp only[zfD];rw[qn,if_neg (by omega)]
   rfl)
  have e0:(([]:List (List Int)),(0:Int))=((List.range 0).map (zaT d),((0:Nat):Int)):=rfl;rw[qe,e0,L1,qm];cases hs:(List.range d.members.length).findSome? (fun i=>(zhB d i).map fun e=>((i:Int),e)) with
  | some r =>have hr:r.2≠0:=(by obtain ⟨i,_,hi⟩:=AW hs;obtain ⟨e,he,rfl⟩:=Ag.1 hi;exact memF_ne he);simp only[AH,jn_r,if_neg hr]
  | none =>
   have bR:∀ i,i < d.members.length->zhB d i=none:=fun i hi=>(by have:=A9.1 hs i (AR.2 hi);simpa using this);have cL:=ziX bR;simp only[BL,z8];have L2:=yD (B:=zfC P303 d (zfN d,(d.members.length:Int))) (fun i=>(i:Int)) d.members.length (fun i=>((zjm d i).map fun e=>((i:Int),e)).map fun r=>(([]:List (List Int)),r.1,zm r.2)) (d:=((d.members.length:Nat):Int)) (fun i hi hg=>by
    simp only[zfC];have e4:wi ((i:Int)+1)=((i+1:Nat):Int):=by rw[zN (by omega) (by omega)];omega
    obtain ⟨b,hb⟩:=nD cL i;rw[qn,if_pos (by omega),P303_eq hl cL hi,hb];simp only[zk];unfold zjm;rw[hb];cases b with
    | true=>rfl
    | false =>
     simp only[za,e4,Option.some.injEq,Aq,if_false,BL]
     rfl) (fun _=>by
    simp only[zfC];rw[qn,if_neg (by omega)]
    rfl)
   rw[qe,show (0:Int)=((0:Nat):Int) from rfl,L2,qm];cases eJ:(List.range d.members.length).findSome? (fun i=>(zjm d i).map fun e=>((i:Int),e)) with
   | some r =>
    have hr:r.2≠0:=by
     obtain ⟨i,_,hi⟩:=AW eJ;obtain ⟨e,he,rfl⟩:=Ag.1 hi;unfold zjm at he;split at he
     ·cases he;show (8:Int)≠0;decide
     ·cases he
    simp only[AH,jn_r];rw[if_neg (show ¬ r.2=((0:Nat):Int) from hr)]
   | none=>rfl
 ·rw[show yi d=qu d from if_pos h0,decide_eq_false h0,B0,zh,if_neg h0]
end
end
section
section
variable {n:List (List Int)} (hr:Rng n) (hn:n.length<=100000) (hw:∀ i,(n.getD i []).length<=100000)
include hr hn hw
end
end
section
def allN_len (d:Dim):(zfN d).length=d.members.length:=by unfold zfN;rw[An,Bp]
def P315_eq (d:Dim):P315 d=some ((yi d).1,zm (yi d).2):=by simp only[P315,S315,P340_eq,zk]
end
end Ab
