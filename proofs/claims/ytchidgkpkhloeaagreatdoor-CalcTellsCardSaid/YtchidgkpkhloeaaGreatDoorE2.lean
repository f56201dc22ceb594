import Derived.Test.YtchidgkpkhloeaaGreatDoorC9
open Option (toList_some)
open Bool (not_not)
set_option linter.all false
noncomputable section
namespace Ab
open Go
section
def zjs (s:ByteArray):∃ (l:List Node) (n e:Int),P247 s=some (l,n,e)∧P248 s=some (l,n,zB e)∧l.length<=30∧(e=0->FormOk l)∧0<=e:=by
 unfold P247 P248;by_cases hs:100 < s.size
 ·rw[if_pos hs,if_pos hs];exact ⟨[],0,4,rfl,rfl,by simp,fun e=>by omega,by omega⟩
 ·rw[if_neg hs,if_neg hs];obtain ⟨r,e⟩:=zkI (s:=s) (by omega);rw[e,show rd s 404 (.row true) 0 []=some r from e];cases r with
  | bad b=>exact ⟨[],b,2,rfl,rfl,by simp,fun e=>by omega,by omega⟩
  | ok i b l =>
   simp only;by_cases hb:b < s.size
   ·rw[if_pos hb,if_pos hb];exact ⟨[],b,2,rfl,rfl,by simp,fun e=>by omega,by omega⟩
   ·rw[if_neg hb,if_neg hb,P240_eq,P241_eq];simp only[zi];by_cases h0:zeG l=0
    ·have ok:=form_ok.1 h0;refine ⟨l,0,0, ?_, ?_,ok.most,fun _=>ok,Ca _⟩
     ·rw[h0];rfl
     ·rw[h0];rfl
    ·have hp:0<=zeG l:=by
      unfold zeG;split
      ·omega
      split
      ·omega
      split
      ·rename_i e he;obtain ⟨i,_,hi⟩:=Ax he;unfold jO at hi;split at hi
       ·split at hi
        ·cases hi
        ·cases hi;unfold qY
         repeat' split
         all_goals omega
       ·cases hi
      ·split
       ·rename_i e he;obtain ⟨i,_,hi⟩:=Ax he;unfold yi at hi;split at hi
        ·cases hi
        ·cases hi;omega
       ·omega
     refine ⟨[],0,zeG l, ?_, ?_,by simp,fun e=>absurd e h0,hp⟩
     ·rw[if_neg h0]
     ·rw[zW,if_neg (by simpa using h0)]
def rdT (s:ByteArray):List Node×Int×Int:=(P247 s).getD ([],0,0)
def P247_eq (s:ByteArray):P247 s=some (rdT s):=by obtain ⟨l,n,e,h1,_⟩:=zjs s;unfold rdT;rw[h1];rfl
def P248_eq (s:ByteArray):P248 s=some ((rdT s).1,(rdT s).2.1,zB (rdT s).2.2):=by obtain ⟨l,n,e,h1,h2,_⟩:=zjs s;unfold rdT;rw[h1,h2];rfl
def rdT_ok {s:ByteArray} (h:(rdT s).2.2=0):FormOk (rdT s).1:=by obtain ⟨l,n,e,h1,_,_,h4,_⟩:=zjs s;unfold rdT at h ⊢;rw[h1] at h ⊢;exact h4 h
def zfs (s:ByteArray):(rdT s).1.length<=30:=by obtain ⟨l,n,e,h1,_,h3,_⟩:=zjs s;unfold rdT;rw[h1];exact h3
def zev (l:List Int) (n:Int):Bool:=l.any fun y=>decide (y=n)
def zbF {l:List Int} {n:Int}:zev l n=true↔n∈l:=by simp[zev]
def P362_eq (l:List Int) (n:Int) (h:l.length<=9223372036854775807):P362 l n=some (idxOf (fun y=>decide (y=n)) l):=by
 refine yp _ l (fun i y hy => ?_) (by simp[ziX]);have hi:=(Ac.1 hy).1;have e:(((i:Nat):Int) < ((l.length:Nat):Int)):=by omega
 simp only[ziX,za,hy,zi,e,decide_true,zo];rw[qp (by omega) (by omega)];by_cases c:y=n
 ·simp[c]
 ·have c':¬ n=y:=fun e=>c e.symm;simp[c,c']
def P357_eq (l:List Int) (n:Int) (h:l.length<=9223372036854775807):P357 l n=some (zev l n):=by simp only[P357,S357,P362_eq l n h,zi];congr 1;exact zd7 _ _
def compI_len (l:List Int):(zhI l).length<=l.length:=by unfold zhI Lib.compact Lib.compactUpTo;rw[Ao];exact Aw (BC _ _) (by simp)
def setI_len (l:List Int):(zez l).length<=l.length:=by have:=compI_len (zdj l);rw[yA] at this;exact this
def zgQ {l:List Int} (h:l.length<=1000000):(bno (P213 l) fun cp=>ck (decide (List.length cp=List.length l)) <| bno (P302 cp) fun eM=>some eM)=some (zez l):=by unfold P213 P302;rw[zp (by unfold zu;omega)];simp only[zi];rw[zp (yA l),zp (by rw[yA];unfold zu;omega)];rfl
def n7 {α:Type} {b:Bool} (h:b=true) (x:Option α):ck b x=x:=by rw[h];rfl
section
variable {d:Dim}
def cntP2 (d:Dim) (i:Int):List Int:=(partsOf d.members i).filter fun k=>decide (¬ sgn d.members k=0)
def zas {i x:Int} (h:x∈partsOf d.members i):∃ k:Nat,x=k∧k < d.members.length:=by obtain ⟨k,e,hk,_⟩:=mem_idxs.1 h;exact ⟨k,e,hk⟩
def zaU {l:List Node} {i:Nat} {x:Node} (h:l[i]? = some x):yW (l.take (i+1))=yW (l.take i)++(if x.op=2 then [x.name] else []):=by rw[BT,h,refL_app];congr 1;unfold yW;by_cases c:x.op=2<;>simp[c]
def zeX (hl:d.members.length<=1000) {l:List Node} (oC:l.length<=1000) (a2:Option (List Node)) (ha:Option.getD a2 []=l):lpO (zee P37 d a2) (([]:List Int),(0:Int))=some (.inl ((yW l).map (zU d.members),(l.length:Int))):=by
 have hs:=zH (B:=zee P37 d a2) (fun i=>((yW (l.take i)).map (zU d.members),(i:Int))) l.length (fun i hi=>by
  have hx:=Aa hi;simp only[zee,ha];rw[zh,if_pos (by omega)];simp only[za,hx,zi];have e4:wi ((i:Int)+1)=((i+1:Nat):Int):=by rw[qp (by omega) (by omega)];omega
  rw[zaU hx,zh];have hb:(yW (l.take i)).length<=1000:=Aw (zbn _) (by rw[AP];omega);by_cases c:l[i].op=2
  ·rw[if_pos c,P37_eq _ _ (by omega),if_pos c];simp only[zi];rw[zp (by rw[Ao];simp only[AD];unfold zu;omega)];simp only[zq,zX,e4,Bj,Az,BL];rfl
  ·rw[if_neg c,if_neg c];simp only[zq,zX,e4,BV]
   rfl)
 rw[show (([]:List Int),(0:Int))=((yW (l.take 0)).map (zU d.members),((0:Nat):Int)) by rw[B4];rfl,hs,AZ];refine zI ?_;simp only[zee,ha];rw[zh,if_neg (by omega)];rfl
def P356_some (hl:d.members.length<=1000) {l:List Node} (ai:l≠[]) (oC:l.length<=1000) (i:Int):P356 d i (some l)=some (zez ((yW l).map (zU d.members))):=by simp only[P356,S356,zV,zeX hl oC (some l) rfl,zX];rw[n7 (by cases l with | nil=>exact absurd rfl ai | cons=>rfl)];simp only[Option.isNone_some,zd,zq,zX];exact zgQ (by rw[Ao];exact Aw (zbn _) (by omega))
def zkJ (hl:d.members.length<=1000) (ps:List Int) (hp:∀ x∈ps,∃ k:Nat,x=k∧k < d.members.length) (hn:ps.length<=1000):lpO (zed d ps) (([]:List Int),(0:Int))=some (.inl (ps.filter (fun k=>decide (¬ sgn d.members k=0)),(ps.length:Int))):=by
 have hs:=zH (B:=zed d ps) (fun i=>((ps.take i).filter (fun k=>decide (¬ sgn d.members k=0)),(i:Int))) ps.length (fun i hi=>by
  have hx:=Aa hi;obtain ⟨k,hk,fJ⟩:=hp _ (Ay hi);have hm:=Aa fJ;simp only[zed];rw[zh,if_pos (by omega)];have e4:wi ((i:Int)+1)=((i+1:Nat):Int):=by rw[qp (by omega) (by omega)];omega
  have hb:((ps.take i).filter (fun k=>decide (¬ sgn d.members k=0))).length<=1000:=Aw (BC _ _) (by rw[AP];omega);have fH:sgn d.members ps[i]=(d.members[k]).sign:=by unfold sgn;rw[hk,Aj,hm]
  simp only[za,hx,zi];rw[show zl d.members ps[i]=some d.members[k] by rw[hk,za,hm]];simp only[zi];rw[BT,hx,CD,zh];by_cases c:(d.members[k]).sign=0
  ·rw[if_neg (by simpa using c)];simp only[zq,zX,e4,toList_some];rw[List.filter_cons_of_neg (by rw[fH];simpa using c)];simp
  ·rw[if_pos c,zp (by simp only[AD];unfold zu;omega)];simp only[zq,zX,e4,toList_some];rw[List.filter_cons_of_pos (by rw[fH];simpa using c)]
   rfl)
 rw[show (([]:List Int),(0:Int))=((ps.take 0).filter (fun k=>decide (¬ sgn d.members k=0)),((0:Nat):Int)) by rw[B4];rfl,hs,AZ];refine zI ?_;simp only[zed];rw[zh,if_neg (by omega)];rfl
def P356_none (hl:d.members.length<=1000) (i:Int):P356 d i none=some (zez (cntP2 d i)):=by simp only[P356,S356,zV,zeX hl (l:=[]) (by simp) none rfl,zX];rw[n7 rfl];have gm:(partsOf d.members i).length<=1000:=Aw (zaz _ _) hl;simp only[Option.isNone_none,zo,P47_eq hl,zi];rw[show (yW []).map (zU d.members)=([]:List Int) from rfl,zkJ hl _ (fun x hx=>zas hx) gm];simp only[zX,zq];exact zgQ (Aw (BC _ _) (by omega))
def zif (d:Dim) (i:Nat):List Int:=match d.members[i]? with
 | some m=>if m.formula=⟨#[]⟩ then cntP2 d i else (yW (rdT m.formula).1).map (zU d.members)
 | none=>[]
def qL (d:Dim) (i:Nat):List Int:=zez (zif d i)
def zca (d:Dim) (i:Nat):Option Int:=match d.members[i]? with
 | some m=>if m.formula≠⟨#[]⟩∧(rdT m.formula).2.2≠0 then some (rdT m.formula).2.2 else if zev (qL d i) (-1)=true then some 5 else none
 | none=>none
def jJ (d:Dim):List (List Int):=(List.range d.members.length).map (qL d)
def zcU (d:Dim) (i:Nat):Option Int:=if zcT (jJ d) i=some true then some 8 else none
def zbm (d:Dim):Int×Int :=
  match (List.range d.members.length).findSome? fun i=>(zca d i).map fun e=>((i:Int),e) with
  | some r=>r
  | none=>match (List.range d.members.length).findSome? fun i=>(zcU d i).map fun e=>((i:Int),e) with
   | some r=>r
   | none=>(-1,0)
def qB (d:Dim):Int×Int:=if ¬ (zL d).2=0 then zL d else zbm d
def P355_eq {i:Nat} {m:Member} (h:d.members[i]? = some m):zlh d (i:Int)=some (if m.formula=⟨#[]⟩ then (none,.nil) else (some (rdT m.formula).1,zB (rdT m.formula).2.2)):=by
 simp only[zlh,S355,za,h,zi,P248_eq];rw[zh]
 split<;>rfl
def rawN_len (hl:d.members.length<=12) (i:Nat):(zif d i).length<=30:=by
 unfold zif;split
 ·split
  ·exact Aw (BC _ _) (Aw (zaz _ _) (by omega))
  ·rw[Ao];exact Aw (zbn _) (zfs _)
 ·simp
def yn (hl:d.members.length<=12) (i:Nat):(qL d i).length<=30:=Aw (setI_len _) (rawN_len hl i)
def P356_need (hl:d.members.length<=12) {i:Nat} {m:Member} (h:d.members[i]? = some m) (hf:¬ (m.formula≠⟨#[]⟩∧(rdT m.formula).2.2≠0)) :
  P356 d (i:Int) (if m.formula=⟨#[]⟩ then none else some (rdT m.formula).1)=some (qL d i):=by
 unfold qL zif;rw[h];simp only;by_cases c:m.formula=⟨#[]⟩
 ·rw[if_pos c,if_pos c,P356_none (by omega)]
 ·have h0:(rdT m.formula).2.2=0:=A6 fun e=>hf ⟨c,e⟩;have ok:=rdT_ok h0;have ai:(rdT m.formula).1≠[]:=fun e=>by have:=ok.pos;rw[e] at this;simp at this
  rw[if_neg c,if_neg c,P356_some (by omega) ai (Aw (zfs _) (by omega))]
def memF_none {i:Nat} {m:Member} (h:d.members[i]? = some m) (hn:zca d i=none):¬ (m.formula≠⟨#[]⟩∧(rdT m.formula).2.2≠0)∧zev (qL d i) (-1)=false:=by
 unfold zca at hn;rw[h] at hn;simp only at hn;split at hn
 ·cases hn
 ·rename_i c;split at hn
  ·cases hn
  ·rename_i c2;exact ⟨c,C6.2 c2⟩
def zcz (l:List Member) (s:ByteArray) : -1<=zU l s∧zU l s < l.length:=by
 unfold zU idxOf;split
 ·rename_i i hi;have:=(Bp.1 hi).1;omega
 ·omega
def zf6 (hn:∀ i,i < d.members.length->zca d i=none):Rng (jJ d):=by
 intro i k hk;unfold jJ at hk ⊢;rw[Ao,A9];by_cases hi:i < d.members.length
 ·have hx:=Aa hi;simp only[Ad,Ah,A4 hi,AA,AY] at hk;obtain ⟨h1,h2⟩:=memF_none hx (hn i hi);have h3:k ≠ -1:=fun e=>(by rw[e] at hk;rw[zbF.2 hk] at h2;cases h2);have bB:k∈zif d i:=(ww _).2 k |>.1 hk;unfold zif at bB;rw[hx] at bB;simp only at bB;split at bB
  ·obtain ⟨k',rfl,aJ⟩:=zas (Bu.1 bB).1;omega
  ·obtain ⟨s,_,rfl⟩:=Am.1 bB;have:=zcz d.members s;omega
 ·simp only[Ad,Ah,AH (show (List.range d.members.length).length<=i by rw[A9];omega),Bt,Option.getD_none] at hk;cases hk
def oH {i:Nat} (hi:i < d.members.length):(jJ d)[i]? = some (qL d i):=by unfold jJ;rw[Ah,A4 hi];rfl
def zfy {i:Nat} {e:Int} (h:zca d i=some e):e≠0:=by
 unfold zca at h;split at h
 ·split at h
  ·rename_i c;cases h;exact c.2
  ·split at h
   ·cases h;decide
   ·cases h
 ·cases h
def P303_eq (hl:d.members.length<=12) (hr:Rng (jJ d)) {i:Nat} (hi:i < d.members.length):P303 (jJ d) (i:Int)=zcT (jJ d) i:=by
 unfold P303;rw[if_pos,Aj];refine ⟨hr,by omega,by unfold jJ;rw[Ao,A9];omega,by unfold jJ;rw[Ao,A9];omega,fun k => ?_⟩;unfold jJ;simp only[Ad,Ah];by_cases hk:k < d.members.length
 ·rw[A4 hk];exact Aw (yn hl k) (by omega)
 ·rw[AH (by rw[A9];omega)];simp
def P340_eq (d:Dim):P340 d=some (if (qB d).2=0 then jJ d else [],(qB d).1,zB (qB d).2):=by
 simp only[P340,S340,P15_eq,zi,zW];by_cases h0:(zL d).2=0
 ·have ok:=zhF.1 h0;obtain ⟨eH,hl⟩:=ok.len;rw[show qB d=zbm d from if_neg (fun h=>h h0)];unfold zbm;rw[decide_eq_true h0,Bm,zd];have L1:=q8 (B:=zgj zlh P356 P357 d) (fun i=>((List.range i).map (qL d),(i:Int))) d.members.length (fun i=>((zca d i).map fun e=>((i:Int),e)).map fun r=>(([]:List (List Int)),r.1,zB r.2)) (d:=(jJ d,(d.members.length:Int))) (fun i hi hg=>by
   have hx:=Aa hi;simp only[zgj];rw[zh,if_pos (by omega),P355_eq hx];simp only[zi];have e4:wi ((i:Int)+1)=((i+1:Nat):Int):=by rw[qp (by omega) (by omega)];omega
   by_cases hf:(d.members[i]).formula≠⟨#[]⟩∧(rdT (d.members[i]).formula).2.2≠0
   ·have hm:zca d i=some (rdT (d.members[i]).formula).2.2:=by unfold zca;rw[hx];simp only;rw[if_pos hf]
    rw[hm,if_neg hf.1];simp only[zW,decide_eq_false hf.2,BH,zo,AA];rfl
   ·have kC:=P356_need hl hx hf;have bN:∀ (k:Option (List Node)×Err->Option (LR (List (List Int)×Int) (List (List Int)×Int×Err))),k (if (d.members[i]).formula=⟨#[]⟩ then (none,.nil) else (some (rdT (d.members[i]).formula).1,zB (rdT (d.members[i]).formula).2.2))=k (if (d.members[i]).formula=⟨#[]⟩ then none else some (rdT (d.members[i]).formula).1,.nil):=by
     intro k;by_cases c:(d.members[i]).formula=⟨#[]⟩
     ·rw[if_pos c,if_pos c]
     ·have h1:(rdT (d.members[i]).formula).2.2=0:=A6 fun e=>hf ⟨c,e⟩;rw[if_neg c,if_neg c,h1];rfl
    have:=bN (fun y3=>br (!(Err.isNil y3.2)) (qX (some (([]:List (List Int)),(i:Int),y3.2))) (bno (P356 d (i:Int) y3.1) fun y4=>bno (P357 y4 (-1:Int)) fun y5=>br y5 (qX (some (([]:List (List Int)),(i:Int),Err.no (5:Int)))) (ck (decide (List.length ((List.range i).map (qL d))+List.length ([y4]:List (List Int))<=zu)) <| nxO (some ((List.range i).map (qL d)++([y4]:List (List Int)),wi ((i:Int)+(1:Int)))))));simp only at this;rw[this];have rU:=yn hl i;simp only[ym,Bm,zd,kC,zi,P357_eq _ _ (show (qL d i).length<=9223372036854775807 by omega)];have hm:zca d i=if zev (qL d i) (-1)=true then some 5 else none:=by unfold zca;rw[hx];simp only;rw[if_neg hf]
    rw[hm];by_cases c:zev (qL d i) (-1)=true
    ·rw[c];rfl
    ·rw[BA] at c;rw[c];simp only[zd,As,if_false,Bt];rw[zp (by rw[Ao,A9];simp only[AD];unfold zu;omega),e4,Ci,Bj]
     rfl) (fun _=>by
   simp only[zgj];rw[zh,if_neg (by omega)]
   rfl)
  have e0:(([]:List (List Int)),(0:Int))=((List.range 0).map (qL d),((0:Nat):Int)):=rfl;rw[zV,e0,L1,zZ];cases hs:(List.range d.members.length).findSome? (fun i=>(zca d i).map fun e=>((i:Int),e)) with
  | some r =>have hr:r.2≠0:=(by obtain ⟨i,_,hi⟩:=Ax hs;obtain ⟨e,he,rfl⟩:=Ag.1 hi;exact zfy he);simp only[AA,jn_r,if_neg hr]
  | none =>
   have aZ:∀ i,i < d.members.length->zca d i=none:=fun i hi=>(by have:=A8.1 hs i (AU.2 hi);simpa using this);have ca:=zf6 aZ;simp only[Bt,zX];have L2:=q8 (B:=zgi P303 d (jJ d,(d.members.length:Int))) (fun i=>(i:Int)) d.members.length (fun i=>((zcU d i).map fun e=>((i:Int),e)).map fun r=>(([]:List (List Int)),r.1,zB r.2)) (d:=((d.members.length:Nat):Int)) (fun i hi hg=>by
    simp only[zgi];have e4:wi ((i:Int)+1)=((i+1:Nat):Int):=by rw[qp (by omega) (by omega)];omega
    obtain ⟨b,hb⟩:=zbV ca i;rw[zh,if_pos (by omega),P303_eq hl ca hi,hb];simp only[zi];unfold zcU;rw[hb];cases b with
    | true=>rfl
    | false =>
     simp only[zd,e4,Option.some.injEq,As,if_false,Bt]
     rfl) (fun _=>by
    simp only[zgi];rw[zh,if_neg (by omega)]
    rfl)
   rw[zV,show (0:Int)=((0:Nat):Int) from rfl,L2,zZ];cases cV:(List.range d.members.length).findSome? (fun i=>(zcU d i).map fun e=>((i:Int),e)) with
   | some r =>
    have hr:r.2≠0:=by
     obtain ⟨i,_,hi⟩:=Ax cV;obtain ⟨e,he,rfl⟩:=Ag.1 hi;unfold zcU at he;split at he
     ·cases he;show (8:Int)≠0;decide
     ·cases he
    simp only[AA,jn_r];rw[if_neg (show ¬ r.2=((0:Nat):Int) from hr)]
   | none=>rfl
 ·rw[show qB d=zL d from if_pos h0,decide_eq_false h0,BH,zo,if_neg h0]
end
end
section
def P358_eq {done:List Bool} {k:Int} (h0:0<=k) (h1:k < done.length):P358 k done=some (!done.getD k.toNat false):=by
 obtain ⟨m,rfl⟩:∃ m:Nat,k=m:=⟨k.toNat,by omega⟩;have hm:m < done.length:=by omega
 simp only[P358,S358,za,Aa hm,zi,Aj,Ad,AY]
def P345_eq {l:List Int} {done:List Bool} (h:∀ k∈l,0<=k∧k < done.length) (hl:l.length<=9223372036854775807):yP l done=some (l.any fun k => !done.getD k.toNat false):=by
 have:zgD l done=some (idxOf (fun k => !done.getD k.toNat false) l):=by
  refine yp _ l (fun i y hy => ?_) (by simp[zbc]);have hi:=(Ac.1 hy).1;obtain ⟨h0,h1⟩:=h y (Ae hy);have e:(((i:Nat):Int) < ((l.length:Nat):Int)):=by omega
  simp only[zbc,za,hy,zi,e,decide_true,zo,P358_eq h0 h1];rw[qp (by omega) (by omega)];cases done.getD y.toNat false<;>rfl
 simp only[yP,zka,this,zi];congr 1;exact zd7 _ _
def dnL (m:Nat) (out:List Nat):List Bool:=(List.range m).map fun j=>out.contains j
def wH (m:Nat) (out:List Nat):(dnL m out).length=m:=by simp[dnL]
def zdM {m j:Nat} {out:List Nat} (h:j < m):(dnL m out).getD j false=out.contains j:=by unfold dnL;simp only[Ad,Ah,A4 h];rfl
def dnL_set {m i:Nat} {out:List Nat} (h:i < m):(dnL m out).set i true=dnL m (out++[i]):=by
 apply B1;intro j;unfold dnL;rw[BD,Ah,Ah];by_cases hj:j < m
 ·rw[A4 hj];by_cases e:i=j
  ·subst e;simp[h]
  ·rw[if_neg e];have e':¬ j=i:=fun h=>e h.symm;simp[e']
 ·rw[AH (by rw[A9];omega)];rw[if_neg (by omega)];rfl
def qA (l:List Nat):List Int:=l.map fun (k:Nat)=>(k:Int)
def nd_done {n:List (List Int)} (hr:Rng n) {i:Nat} (out:List Nat):(!(n.getD i []).any fun k => !(dnL n.length out).getD k.toNat false)=(nd n i).all fun k=>out.contains k:=by
 unfold nd;rw[List.all_map,List.any_eq_not_all_not,not_not];simp only[not_not];rw[Bool.eq_iff_iff,Ai,Ai];constructor
 ·intro h k hk;have h1:=hr i k hk;have h2:=h k hk;rw[zdM (by omega)] at h2;exact h2
 ·intro h k hk;have h1:=hr i k hk;have h2:=h k hk;rw[zdM (by omega)];exact h2
section
variable {n:List (List Int)} (hr:Rng n) (hn:n.length<=100000) (hw:∀ i,(n.getD i []).length<=100000)
include hr hn hw
def zkS {out:List Nat} (ho:out.length<=100000) {i:Nat} (hi:i < n.length) :
  zei yP n (qA out,(i:Int),dnL n.length out)=if (!out.contains i && (nd n i).all fun k=>out.contains k)=true then some (.dn (qA (out++[i]),(i:Int),dnL n.length (out++[i]))) else some (.nx (qA out,((i+1:Nat):Int),dnL n.length out)):=by
 have hg:n[i]? = some (n.getD i []):=by rw[Ad,Aa hi];rfl
 have hd:(dnL n.length out)[i]? = some (out.contains i):=by
  have h1:=zdM (out:=out) hi;have h2:i < (dnL n.length out).length:=by rw[wH];exact hi
  rw[Aa h2];rw[Ad,Aa h2] at h1;exact congrArg some h1
 have e4:wi ((i:Int)+1)=((i+1:Nat):Int):=by rw[qp (by omega) (by omega)];omega
 simp only[zei];rw[zh,if_pos (by omega),zp ⟨by omega,by rw[wH];omega⟩,Aj,hd];simp only[zi];cases hc:out.contains i with
 | true =>simp only[Bm,zd,zq,zX,e4,Cr,As,if_false];rfl
 | false =>
  rw[BH,zo,za,hg];simp only[zi];rw[P345_eq (fun k hk=>by rw[wH];exact hr i k hk) (by have:=hw i;omega)];simp only[zi,zq,zX,nd_done hr,Bi];by_cases hall:((nd n i).all fun k=>out.contains k)=true
  ·rw[hall,zo,if_pos rfl,zp ⟨by omega,by rw[wH];omega⟩,zp (by unfold qA;rw[Ao];simp only[AD];unfold zu;omega),dnL_set hi];unfold qA;rw[Bj];rfl
  ·rw[BA] at hall;rw[hall,zd,e4];rfl
def ze1 {out:List Nat} (ho:out.length<=100000):∀ (m k:Nat),k+m=n.length->lpO (zei yP n) (qA out,(k:Int),dnL n.length out) =
  some (.inl (match (List.range' k m).find? fun i => !out.contains i && (nd n i).all fun k=>out.contains k with | some i=>(qA (out++[i]),(i:Int),dnL n.length (out++[i])) | none=>(qA out,(n.length:Int),dnL n.length out)))
 | 0,k,hk=>by
  obtain rfl:k=n.length:=by omega
  refine zI ?_;simp only[zei];rw[zh,if_neg (by omega)];rfl
 | m+1,k,hk=>by
  have hs:=zkS hr hn hw ho (i:=k) (by omega);rw[List.range'_succ,List.find?_cons];by_cases c:(!out.contains k && (nd n k).all fun k=>out.contains k)=true
  ·rw[if_pos c] at hs;rw[zI hs];simp only[c]
  ·rw[if_neg c] at hs;rw[BA] at c;rw[wg hs,ze1 ho m (k+1) (by omega)];simp only[c]
def zeV (ha:Acyc n):∀ (f:Nat) (out:List Nat),yu n out->out.length+f=n.length->lpO (zeh yP n) (qA out,dnL n.length out)=some (.inl (qA (je n f out),dnL n.length (je n f out)))
 | 0,out,ho,hl=>by
  refine zI ?_;simp only[zeh];rw[zh,if_neg (by unfold qA;rw[Ao];omega)];rfl
 | f+1,out,ho,hl=>by
  obtain ⟨i,hi⟩:=zb8 hr ha ho (by omega);have aK:=ze1 hr hn hw (out:=out) (by omega) n.length 0 (by omega);rw[← B9] at aK;have aA:(List.range n.length).find? (fun i => !out.contains i && (nd n i).all fun k=>out.contains k)=some i:=hi;rw[aA] at aK;have bz:zeh yP n (qA out,dnL n.length out)=some (.nx (qA (out++[i]),dnL n.length (out++[i]))):=(by simp only[zeh];rw[zh,if_pos (by unfold qA;rw[Ao];omega),zV,show (0:Int)=((0:Nat):Int) from rfl,aK];rfl);rw[wg bz,zeV ha f _ (ho.add hi) (by simp;omega)];simp only[je,hi]
def P341_eq (ha:Acyc n):P341 n=some (qA (jf n)):=by
 simp only[P341,S341];rw[zp ⟨by omega,Ca _,by unfold zu;omega⟩,Aj,zV];have h:=zeV hr hn hw ha n.length [] (.nil n) (by simp);have e:dnL n.length []=List.replicate n.length false:=by
  unfold dnL;apply B1;intro j;rw[Ah,Bv];by_cases hj:j < n.length
  ·rw[A4 hj,if_pos hj];rfl
  ·rw[AH (by rw[A9];omega),if_neg hj];rfl
 rw[e] at h;rw[show (([]:List Int),List.replicate n.length false)=(qA [],List.replicate n.length false) from rfl,h];rfl
end
end
section
def zaL (d:Dim):(jJ d).length=d.members.length:=by unfold jJ;rw[Ao,A9]
def zkD {d:Dim} (h:(qB d).2=0):d.members.length<=12∧Rng (jJ d)∧Acyc (jJ d):=by
 have h0:(zL d).2=0:=A6 fun h1=>(by rw[show qB d=zL d from if_pos h1] at h;exact h1 h);have ok:=zhF.1 h0;obtain ⟨eH,hl⟩:=ok.len;rw[show qB d=zbm d from if_neg (fun h=>h h0)] at h;unfold zbm at h;cases hs:(List.range d.members.length).findSome? (fun i=>(zca d i).map fun e=>((i:Int),e)) with
 | some r =>rw[hs] at h;obtain ⟨i,_,hi⟩:=Ax hs;obtain ⟨e,he,rfl⟩:=Ag.1 hi;exact absurd h (zfy he)
 | none =>
  rw[hs] at h;have aZ:∀ i,i < d.members.length->zca d i=none:=fun i hi=>(by have:=A8.1 hs i (AU.2 hi);simpa using this);have ca:=zf6 aZ;refine ⟨hl,ca,fun i hi => ?_⟩;rw[zaL] at hi;obtain ⟨b,hb⟩:=zbV ca i;cases b with
  | false=>exact zdl ca hb
  | true =>
   cases cV:(List.range d.members.length).findSome? (fun i=>(zcU d i).map fun e=>((i:Int),e)) with
   | some r =>
    rw[cV] at h;obtain ⟨j,_,hj⟩:=Ax cV;obtain ⟨e,he,rfl⟩:=Ag.1 hj;unfold zcU at he;split at he
    ·cases he;have h8:(8:Int)=0:=h;omega
    ·cases he
   | none =>have:=A8.1 cV i (AU.2 hi);unfold zcU at this;rw[if_pos hb] at this;cases this
def allN_w {d:Dim} (hl:d.members.length<=12) (i:Nat):((jJ d).getD i []).length<=1000:=by
 unfold jJ;simp only[Ad,Ah];by_cases hk:i < d.members.length
 ·rw[A4 hk];exact Aw (yn hl i) (by omega)
 ·rw[AH (by rw[A9];omega)];simp
def P315_eq (d:Dim):P315 d=some ((qB d).1,zB (qB d).2):=by simp only[P315,S315,P340_eq,zi]
end
end Ab
