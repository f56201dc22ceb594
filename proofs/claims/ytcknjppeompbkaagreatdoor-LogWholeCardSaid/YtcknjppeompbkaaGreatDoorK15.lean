import Derived.Test.YtcknjppeompbkaaGreatDoorK0
set_option linter.all false
noncomputable section
namespace Ab
open Go
section
def qa (s:ByteArray):Bool:=decide (s=⟨#[]⟩) || (decide (8 < s.size) || s.data.toList.any fun c=>decide (c.toNat < 97) || decide (122 < c.toNat))
def zp (e:Int):Err:=if e=0 then .nil else .no e
def P67_eq (n:Int):P67 n=some (decide (n < 97) || decide (122 < n)):=by simp[P67,S67]
def P75_eq (l:List UInt8) (h:l.length<=9223372036854775807):P75_67 l=some (idxOf (fun c=>decide (c.toNat < 97) || decide (122 < c.toNat)) l):=by
 refine kI _ l (fun i y hy => ?_) (by simp[zdp]);have hi:=(Aa.1 hy).1;have e:(((i:Nat):Int) < ((l.length:Nat):Int)):=by omega
 simp only[zdp,zn,hy,zq,P67_eq,e,decide_true,zw];rw[ww (by omega) (by omega)];have e1:((y.toNat:Nat):Int) < 97↔y.toNat < 97:=by omega
 have e2:122 < ((y.toNat:Nat):Int)↔122 < y.toNat:=by omega
 simp only[e1,e2];cases (decide (y.toNat < 97) || decide (122 < y.toNat))<;>rfl
def zfb {β:Type} (p:β->Bool) (l:List β):decide (0<=idxOf p l)=l.any p:=by
 cases h:l.any p with
 | false=>have:=oa.2 h;simp;omega
 | true =>
  have:¬ idxOf p l < 0:=fun e=>by rw[oa.1 e] at h;cases h
  simp;omega
def P41_eq (s:ByteArray):P41 s=some (if qa s then .no 2 else .nil):=by
 by_cases h1:s=⟨#[]⟩
 ·subst h1;simp[P41,S41,qa]
 ·by_cases h2:8 < s.size
  ·have:(8:Int) < ((s.size:Nat):Int):=by omega
   simp[P41,S41,qa,h1,h2,this]
  ·have h3:¬ (8:Int) < ((s.size:Nat):Int):=by omega
   have hl:s.data.toList.length<=9223372036854775807:=(by have:s.data.toList.length=s.size:=rfl;omega);simp only[P41,S41,P66_67,S66_67,P75_eq _ hl,h1,h3,decide_false,zi,zq,zfb,qp,yR];simp only[qa,h1,h2,decide_false,Bool.false_or];cases (s.data.toList.any fun c=>decide (c.toNat < 97) || decide (122 < c.toNat))<;>rfl
def wq (l:List Member) (s:ByteArray):Int:=idxOf (fun m=>decide (m.name=s)) l
def P37_eq (l:List Member) (s:ByteArray) (h:l.length<=9223372036854775807):P37 l s=some (wq l s):=by
 have:P63_64 l s=some (wq l s):=by
  refine kI _ l (fun i y hy => ?_) (by simp[zdr]);have hi:=(Aa.1 hy).1;have e:(((i:Nat):Int) < ((l.length:Nat):Int)):=by omega
  simp only[zdr,zn,hy,zq,P64,S64,e,decide_true,zw];rw[ww (by omega) (by omega)];cases decide (y.name=s)<;>rfl
 simp[P37,S37,this]
def zez (l:List Dim) (d:Dim):Bool:=l.any fun x=>decide (x.name=d.name)
def P38_eq (l:List Dim) (d:Dim) (h:l.length<=9223372036854775807):zgx l d=some (zez l d):=by
 have:P65_39 l d=some (idxOf (fun x=>decide (x.name=d.name)) l):=by
  refine kI _ l (fun i y hy => ?_) (by simp[zdq]);have hi:=(Aa.1 hy).1;have e:(((i:Nat):Int) < ((l.length:Nat):Int)):=by omega
  simp only[zdq,zn,hy,zq,P39,S39,e,decide_true,zw];rw[ww (by omega) (by omega)];cases decide (y.name=d.name)<;>rfl
 simp[zgx,S38_39,this,zfb,zez]
def hasF (l:List Member) (p:Int):Bool:=match l[p.toNat]? with | some x=>decide (¬ x.formula=⟨#[]⟩) | none=>false
def yJ (l:List Member) (i:Nat) (m:Member):Int :=
 if qa m.name=true then 2 else if ((l.take i).any fun x=>decide (x.name=m.name))=true then 7 else if m.parent < -1∨(i:Int)<=m.parent then 1
 else if 0<=m.parent∧hasF l m.parent=true then 6 else if m.sign < -1∨1 < m.sign then 1 else if 100 < m.formula.size then 4 else 0
def ziB (l:List Member) (s:ByteArray):decide (0<=wq l s)=l.any fun x=>decide (x.name=s):=zfb _ _
def P42_eq {l:List Member} {i:Nat} {m:Member} (hi:l[i]? = some m) (hl:l.length<=9223372036854775807):P42 l i=some (zp (yJ l i m)):=by
 have aq:=(Aa.1 hi).1;have bU:(0:Int)<=0∧(0:Int)<=(i:Int)∧(i:Int)<=((l.length:Nat):Int):=by omega
 have eG:List.take (Int.toNat (i:Int) - Int.toNat (0:Int)) (List.drop (Int.toNat (0:Int)) l)=l.take i:=by simp
 have hlen:(l.take i).length<=9223372036854775807:=by simp;omega
 simp only[P42,S42,zn,hi,zq,P41_eq];unfold yJ;by_cases h1:qa m.name=true
 ·simp[h1,zp]
 rw[if_neg h1,if_neg h1];simp only[zcC,Bf,zi,zL bU,eG,P37_eq _ _ hlen,zq,ziB];by_cases h2:((l.take i).any fun x=>decide (x.name=m.name))=true
 ·rw[h2,if_pos rfl];rfl
 rw[if_neg h2];simp only[BZ] at h2;simp only[h2,zi];by_cases h3:m.parent < -1∨(i:Int)<=m.parent
 ·rw[if_pos h3];rcases h3 with h3 | h3
  ·simp[h3,zp]
  ·by_cases gI:m.parent < -1<;>simp[h3,gI,zp]
 rw[if_neg h3];have h3a:¬ m.parent < -1:=fun h=>h3 (.inl h);have h3b:¬ (i:Int)<=m.parent:=fun h=>h3 (.inr h);simp only[h3a,h3b,decide_false,zi,qp,yR];have h4:jn (σ:=Bool) (α:=Err) (br (decide ((0:Int)<=(Member.parent m))) (bno (qb l (Member.parent m)) fun y5=>some (.inl (decide (¬ (Member.formula y5)=(⟨#[]⟩:ByteArray))))) (some (.inl false)))=fun k=>k (decide (0<=m.parent∧hasF l m.parent=true)):=by
  funext k;by_cases h:0<=m.parent
  ·have hb:m.parent < l.length:=by omega
   have hh:hasF l m.parent=decide (¬ (l[m.parent.toNat]'(by omega)).formula=⟨#[]⟩):=(by unfold hasF;rw[Ac (by omega)]);rw[lookI_in h hb];simp[h,hh]
  ·simp[h]
 rw[h4];by_cases h5:0<=m.parent∧hasF l m.parent=true
 ·rw[if_pos h5];simp[h5,zp]
 rw[if_neg h5];simp only[h5,decide_false,zi];by_cases h6:m.sign < -1∨1 < m.sign
 ·rw[if_pos h6];rcases h6 with h6 | h6
  ·simp[h6,zp]
  ·by_cases h6':m.sign < -1<;>simp[h6,h6',zp]
 rw[if_neg h6];have h6a:¬ m.sign < -1:=fun h=>h6 (.inl h);have h6b:¬ 1 < m.sign:=fun h=>h6 (.inr h);simp only[h6a,h6b,decide_false,zi,qp,yR];by_cases h7:100 < m.formula.size
 ·have:(100:Int) < ((m.formula.size:Nat):Int):=by omega
  simp[h7,this,zp]
 ·have:¬ (100:Int) < ((m.formula.size:Nat):Int):=by omega
  simp[h7,this,zp]
def zcE (l:List Member):Option (Int×Int):=(List.range l.length).findSome? fun i=>match l[i]? with
 | some m=>if yJ l i m=0 then none else some ((i:Int),yJ l i m)
 | none=>none
def qD (d:Dim):Int×Int :=
 if qa d.name=true then (-1,2) else if d.solve < 0∨9 < d.solve then (-1,1) else if 12 < d.members.length then (-1,4) else if d.members=[] then (-1,5)
 else match zcE d.members with | some r=>r | none=>(-1,0)
def zT {e:Int}:(zp e).isNil=decide (e=0):=by unfold zp;split<;>simp_all
def P15_eq (d:Dim):P15 d=some ((qD d).1,zp (qD d).2):=by
 simp only[P15,S15,P41_eq,zq];unfold qD;by_cases h1:qa d.name=true
 ·simp[h1,zp]
 rw[if_neg h1,if_neg h1];simp only[zcC,Bf,zi,qp,br_inl,yR,cond_dec];by_cases h2:d.solve < 0∨9 < d.solve
 ·rw[if_pos h2];rcases h2 with h2 | h2
  ·simp[h2,zp]
  ·by_cases fA:d.solve < 0<;>simp[h2,fA,zp]
 rw[if_neg h2];have h2a:¬ d.solve < 0:=fun h=>h2 (.inl h);have h2b:¬ 9 < d.solve:=fun h=>h2 (.inr h);simp only[h2a,h2b,if_false,decide_false,zi];by_cases h3:12 < d.members.length
 ·have:(12:Int) < ((d.members.length:Nat):Int):=by omega
  simp[h3,this,zp]
 have gI:¬ (12:Int) < ((d.members.length:Nat):Int):=by omega
 rw[if_neg h3];simp only[gI,decide_false,zi];by_cases h4:d.members=[]
 ·simp[h4,zp]
 have nP:¬ ((d.members.length:Nat):Int)=0:=(by intro h;exact h4 (Bj.1 (by omega)));rw[if_neg h4];simp only[nP,decide_false,zi];have:=w6 (B:=ziw P42 d) d.members.length (fun i=>match d.members[i]? with
  | some m=>if yJ d.members i m=0 then none else some ((i:Int),zp (yJ d.members i m))
  | none=>none) (fun i hi=>by
   have e:((i:Nat):Int) < ((d.members.length:Nat):Int):=by omega
   simp only[ziw,e,decide_true,zw,P42_eq (Ac hi) (by omega),zq,Ac hi,zT];rw[ww (by omega) (by omega)];by_cases h:yJ d.members i d.members[i]=0<;>simp[h]) (by simp[ziw])
 unfold lp;rw[this];have e2:((List.range d.members.length).findSome? fun i=>match d.members[i]? with
  | some m=>if yJ d.members i m=0 then none else some ((i:Int),zp (yJ d.members i m))
  | none=>none)=(zcE d.members).map fun r=>(r.1,zp r.2):=by
  unfold zcE;rw[← qt];congr 1;funext i;cases d.members[i]? with
  | none=>rfl
  | some m=>by_cases h:yJ d.members i m=0<;>simp[h]
 rw[e2];cases zcE d.members with
 | none=>simp[zp]
 | some r=>rfl
def zfv (o:List Dim):Int:=o.foldl (fun n d=>wi (n * ((d.members.length:Nat):Int))) 1
def P40_eq (o:List Dim) (h:o.length<=9223372036854775807):P40 o=some (zfv o):=by
 have hs:=qS (B:=ziu o) (fun i=>((o.take i).foldl (fun n d=>wi (n * ((d.members.length:Nat):Int))) 1,(i:Int))) o.length (fun i hi=>by
  have e:((i:Nat):Int) < ((o.length:Nat):Int):=by omega
  simp only[ziu,e,decide_true,zw,zn,Ac hi,zq,eo];rw[ww (n:=(i:Int)+1) (by omega) (by omega),n9 _ _ _ (Ac hi)];rfl)
 simp only[B7,List.foldl_nil,Cg] at hs;simp only[P40,S40];unfold lp;have e0:((0:Nat):Int)=0:=rfl;rw[e0] at hs;rw[hs,jt (y:=(zfv o,(o.length:Int))) (by simp[ziu,zfv])];rfl
def iy (o:List Dim):Option (Int×Int×Int):=(List.range o.length).findSome? fun i=>match o[i]? with
 | some d=>if (qD d).2=0 then (if zez (o.take i) d=true then some ((i:Int),(qD d).1,7) else none) else some ((i:Int),(qD d).1,(qD d).2)
 | none=>none
def jD (o:List Dim):Int×Int×Int :=
 if 4 < o.length then (-1, -1,4) else if o=[] then (-1, -1,5) else match iy o with
 | some r=>r
 | none=>if 3000 < zfv o then (-1, -1,4) else (-1, -1,0)
def P14_eq (o:List Dim):P14 o=some ((jD o).1,(jD o).2.1,zp (jD o).2.2):=by
 simp only[P14,S14];unfold jD;by_cases h1:4 < o.length
 ·have:(4:Int) < ((o.length:Nat):Int):=by omega
  simp[h1,this,zp]
 have dW:¬ (4:Int) < ((o.length:Nat):Int):=by omega
 rw[if_neg h1];simp only[dW,decide_false,zi];by_cases h2:o=[]
 ·simp[h2,zp]
 have fA:¬ ((o.length:Nat):Int)=0:=fun h=>h2 (Bj.1 (by omega));rw[if_neg h2];simp only[fA,decide_false,zi];have:=w6 (B:=zix P15 zgx o) o.length (fun i=>match o[i]? with
  | some d=>if (qD d).2=0 then (if zez (o.take i) d=true then some ((i:Int),(qD d).1,zp 7) else none) else some ((i:Int),(qD d).1,zp (qD d).2)
  | none=>none) (fun i hi=>by
   have e:((i:Nat):Int) < ((o.length:Nat):Int):=by omega
   have bU:(0:Int)<=0∧(0:Int)<=(i:Int)∧(i:Int)<=((o.length:Nat):Int):=by omega
   have eG:List.take (Int.toNat (i:Int) - Int.toNat (0:Int)) (List.drop (Int.toNat (0:Int)) o)=o.take i:=by simp
   have hlen:(o.take i).length<=9223372036854775807:=by simp;omega
   simp only[zix,e,decide_true,zw,zn,Ac hi,zq,P15_eq,zT,zL bU,eG,P38_eq _ _ hlen];rw[ww (by omega) (by omega)];by_cases h:(qD o[i]).2=0
   ·cases hb:zez (o.take i) o[i]<;>simp[h,zp]
   ·have:¬ Err.isNil (zp (qD o[i]).2)=true:=by rw[zT];simpa using h
    simp[h,zT]) (by simp[zix])
 unfold lp;rw[this];have e2:((List.range o.length).findSome? fun i=>match o[i]? with
  | some d=>if (qD d).2=0 then (if zez (o.take i) d=true then some ((i:Int),(qD d).1,zp 7) else none) else some ((i:Int),(qD d).1,zp (qD d).2)
  | none=>none)=(iy o).map fun r=>(r.1,r.2.1,zp r.2.2):=by
  unfold iy;rw[← qt];congr 1;funext i;cases o[i]? with
  | none=>rfl
  | some d =>
   by_cases h:(qD d).2=0
   ·cases hb:zez (o.take i) d<;>simp[h]
   ·simp[h]
 rw[e2];cases iy o with
 | none =>simp only[BE,yR,P40_eq o (by omega),zq];by_cases h3:3000 < zfv o<;>simp[h3,zp]
 | some r=>rfl
def P51_eq (o:List Dim):P51 o=some (zp (jD o).2.2):=by simp[P51,S51,P14_eq]
structure DimOk (d:Dim):Prop where
 name:qa d.name=false
 solve:0<=d.solve∧d.solve<=9
 len:0 < d.members.length∧d.members.length<=12
 mem:∀ (i:Nat) (m:Member),d.members[i]? = some m->yJ d.members i m=0
def zih {d:Dim}:(qD d).2=0↔DimOk d:=by
 unfold qD;by_cases h1:qa d.name=true
 ·rw[if_pos h1];exact ⟨fun h=>by simp at h,fun h=>by rw[h.name] at h1;cases h1⟩
 rw[if_neg h1];by_cases h2:d.solve < 0∨9 < d.solve
 ·rw[if_pos h2];exact ⟨fun h=>by simp at h,fun h=>by have:=h.solve;omega⟩
 rw[if_neg h2];by_cases h3:12 < d.members.length
 ·rw[if_pos h3];exact ⟨fun h=>by simp at h,fun h=>by have:=h.len;omega⟩
 rw[if_neg h3];by_cases h4:d.members=[]
 ·rw[if_pos h4];exact ⟨fun h=>by simp at h,fun h=>by have:=h.len;rw[h4] at this;simp at this⟩
 rw[if_neg h4];have bS:0 < d.members.length:=List.length_pos_iff.2 h4;cases hm:zcE d.members with
 | some r =>
  obtain ⟨i,hi,hr⟩:=AW hm;have hi:i < d.members.length:=by simpa using hi
  rw[Ac hi] at hr;simp only at hr;split at hr
  ·cases hr
  ·rename_i ah;cases hr;exact ⟨fun h=>absurd h ah,fun h=>absurd (h.mem i _ (Ac hi)) ah⟩
 | none =>
  have:=Bp.1 hm;refine ⟨fun _=>⟨by simpa using h1,by omega,by omega,fun i m hi => ?_⟩,fun _=>rfl⟩;have aQ:=(Aa.1 hi).1;have:=this i (by simpa using aQ);rw[hi] at this;simp only at this;split at this
  ·assumption
  ·cases this
structure OutOk (o:List Dim):Prop where
 len:0 < o.length∧o.length<=4
 dims:∀ d∈o,DimOk d
 names:∀ (i:Nat) (d:Dim),o[i]? = some d->zez (o.take i) d=false
 size:zfv o<=3000
def zcu {o:List Dim}:(jD o).2.2=0↔OutOk o:=by
 unfold jD;by_cases h1:4 < o.length
 ·rw[if_pos h1];exact ⟨fun h=>by simp at h,fun h=>by have:=h.len;omega⟩
 rw[if_neg h1];by_cases h2:o=[]
 ·rw[if_pos h2];exact ⟨fun h=>by simp at h,fun h=>by have:=h.len;rw[h2] at this;simp at this⟩
 rw[if_neg h2];have bS:0 < o.length:=List.length_pos_iff.2 h2;cases hm:iy o with
 | some r =>
  obtain ⟨i,hi,hr⟩:=AW hm;have hi:i < o.length:=by simpa using hi
  rw[Ac hi] at hr;simp only at hr;split at hr
  ·split at hr
   ·rename_i hb;cases hr;exact ⟨fun h=>by simp at h,fun h=>by rw[h.names i _ (Ac hi)] at hb;cases hb⟩
   ·cases hr
  ·rename_i ah;cases hr;exact ⟨fun h=>absurd h ah,fun h=>absurd (zih.2 (h.dims _ (Be hi))) ah⟩
 | none =>
  have hn:=Bp.1 hm;have each:∀ (i:Nat) (d:Dim),o[i]? = some d->DimOk d∧zez (o.take i) d=false:=by
   intro i d hi;have aQ:=(Aa.1 hi).1;have:=hn i (by simpa using aQ);rw[hi] at this;simp only at this;split at this
   ·rename_i h0;split at this
    ·cases this
    ·rename_i hb;exact ⟨zih.1 h0,by simpa using hb⟩
   ·cases this
  by_cases h3:3000 < zfv o
  ·simp only[h3,if_true];exact ⟨fun h=>by simp at h,fun h=>by have:=h.size;omega⟩
  ·simp only[h3,if_false];refine ⟨fun _=>⟨by omega,fun d hd => ?_,fun i d hi=>(each i d hi).2,by omega⟩,fun _=>trivial⟩;obtain ⟨i,hi,rfl⟩:=List.getElem_of_mem hd;exact (each i _ (Ac hi)).1
end
section
set_option maxRecDepth 100000
section
variable (F50:ByteArray->Int->(Option Dim)) (F68:Int->(Option ByteArray))
def tc68:TCode:=.seq (rg [om 2 (cs ⟨#[]⟩)]) (.seq (rg [om 5 0,oq 6 (.bin .int .quo 5 (ci 26)),oq 7 (.bin .int .rem 6 (ci 26)),om 3 7]) (.seq (rg [om 8 0,oq 9 (.bin .int .rem 8 (ci 26)),om 4 9]) (.seq (.region [om 10 3,om 11 3,od 12 (.bin .int .add 11 (ci 1)) [1],od 13 (.slc 0 (cs ⟨#[97,98,99,100,101,102,103,104,105,106,107,108,109,110,111,112,113,114,115,116,117,118,119,120,121,122]⟩) (some 10) (some 12)) [0,2],om 14 4,om 15 4,od 16 (.bin .int .add 15 (ci 1)) [5],od 17 (.slc 0 (cs ⟨#[97,98,99,100,101,102,103,104,105,106,107,108,109,110,111,112,113,114,115,116,117,118,119,120,121,122]⟩) (some 14) (some 16)) [4,6],od 18 (.bin .str .add 13 17) [3,7],od 2 (.mov 18) [8,0,1,2,3,4,5,6,7,8]] [] true) (.ret)))) 
def tf68:TFunc:=⟨1,19,[.tmp 2],false,tc68,[]⟩
def S68 (a0:Int):Option ByteArray :=
 ck (decide (¬ (26:Int)=0)) <|
 ck (decide (¬ (26:Int)=0)) <|
 ck (decide (¬ (26:Int)=0)) <|
 ck (decide (0<=Int.tmod (wi (Int.tdiv a0 (26:Int))) (26:Int)∧Int.tmod (wi (Int.tdiv a0 (26:Int))) (26:Int)<=wi ((Int.tmod (wi (Int.tdiv a0 (26:Int))) (26:Int))+(1:Int))∧wi ((Int.tmod (wi (Int.tdiv a0 (26:Int))) (26:Int))+(1:Int))<=((ByteArray.size (⟨#[97,98,99,100,101,102,103,104,105,106,107,108,109,110,111,112,113,114,115,116,117,118,119,120,121,122]⟩:ByteArray):Nat):Int))) <|
 ck (decide (0<=Int.tmod a0 (26:Int)∧Int.tmod a0 (26:Int)<=wi ((Int.tmod a0 (26:Int))+(1:Int))∧wi ((Int.tmod a0 (26:Int))+(1:Int))<=((ByteArray.size (⟨#[97,98,99,100,101,102,103,104,105,106,107,108,109,110,111,112,113,114,115,116,117,118,119,120,121,122]⟩:ByteArray):Nat):Int))) <|
 ck (decide (ByteArray.size (ByteArray.extract (⟨#[97,98,99,100,101,102,103,104,105,106,107,108,109,110,111,112,113,114,115,116,117,118,119,120,121,122]⟩:ByteArray) (Int.toNat (Int.tmod (wi (Int.tdiv a0 (26:Int))) (26:Int))) (Int.toNat (wi ((Int.tmod (wi (Int.tdiv a0 (26:Int))) (26:Int))+(1:Int)))))+ByteArray.size (ByteArray.extract (⟨#[97,98,99,100,101,102,103,104,105,106,107,108,109,110,111,112,113,114,115,116,117,118,119,120,121,122]⟩:ByteArray) (Int.toNat (Int.tmod a0 (26:Int))) (Int.toNat (wi ((Int.tmod a0 (26:Int))+(1:Int)))))<=9223372036854775807)) <|
 some ((ByteArray.extract (⟨#[97,98,99,100,101,102,103,104,105,106,107,108,109,110,111,112,113,114,115,116,117,118,119,120,121,122]⟩:ByteArray) (Int.toNat (Int.tmod (wi (Int.tdiv a0 (26:Int))) (26:Int))) (Int.toNat (wi ((Int.tmod (wi (Int.tdiv a0 (26:Int))) (26:Int))+(1:Int)))))++(ByteArray.extract (⟨#[97,98,99,100,101,102,103,104,105,106,107,108,109,110,111,112,113,114,115,116,117,118,119,120,121,122]⟩:ByteArray) (Int.toNat (Int.tmod a0 (26:Int))) (Int.toNat (wi ((Int.tmod a0 (26:Int))+(1:Int))))))
def P68:=S68
def k68:CSpec:=⟨68,[.int],.str,fun x=>P68 x,false,[]⟩
def r68 {S:Seat} (h:Ok1 S 68 tf68):RtF S [] (Rt S k68):=okr h rfl fun x=>by kernel_rfl
def tc50:TCode:=.seq (rg [oq 4 (.alloc [.string ⟨#[]⟩,.int .i64 0,.slice none 0 0])]) (.seq (.region [om 7 0,oq 8 (.build [.string ⟨#[]⟩,.int .i64 0,.int .i64 0,.string ⟨#[]⟩] [(0,1,(cs ⟨#[97,108,108]⟩)),(1,1,(ci (-1)))]),oq 9 (.bslice false 4 [.string ⟨#[]⟩,.int .i64 0,.int .i64 0,.string ⟨#[]⟩] 1 [(0,8)]),oq 10 (.build [.string ⟨#[]⟩,.int .i64 0,.slice none 0 0] [(0,1,7),(2,1,9)]),oq 5 (.alloc [.string ⟨#[]⟩,.int .i64 0,.slice none 0 0]),on (.store 3 5 10)] [.int,.int,.member] false) (.seq (.seq (rg [om 6 (ci 0)]) (.loop ⟨[.slot 6 .int,.var 5 [.sh .str,.sh .int,.row 9 .member]],[11,12,13,14,15,16,17,18,19,20,21,22,23],[21],[]⟩ 0 (.seq (.seq (rg [om 11 6,om 12 1,oq 13 (.bin .int .lss 11 12)]) (.cond 13 (.skip) (.exit 0))) (.seq (.block 1 (.region [oq 16 (.fa 2 5),od 17 (.load none 16) [0],om 18 6,od 19 (.call false [] 68 [18]) [2],od 20 (.build [.string ⟨#[]⟩,.int .i64 0,.int .i64 0,.string ⟨#[]⟩] [(0,1,19),(1,1,(ci 0)),(2,1,(ci 1))]) [3],od 21 (.bslice false 4 [.string ⟨#[]⟩,.int .i64 0,.int .i64 0,.string ⟨#[]⟩] 1 [(0,20)]) [4],od 22 (.app 4 17 21) [1,5,3],od 23 (.fa 2 5) [0,1,2,3,4,5,6],⟨none,.store 1 23 22,none,[7,6,6,0,1,2,3,4,5,6]⟩] [.int,.int,.int,.int,.int,.member,.member] true)) (rg [om 14 6,oq 15 (.bin .int .add 14 (ci 1)),om 6 15]))))) (.seq (rg [oq 24 (.load (some 3) 5),on (.store 3 4 24)]) (.ret)))) 
def tf50:TFunc:=⟨2,25,[.cell 4 (some 3)],false,tc50,[]⟩
def zgw (a1:Int) (x1:(Int×(ByteArray×Int×LM))):Option (LR (Int×(ByteArray×Int×LM)) Dim) :=
 br (decide (x1.1 < a1))
 (bno (F68 x1.1) fun y2 =>
 ck (decide (List.length x1.2.2.2+List.length ([Member.mk y2 (0:Int) (1:Int) (⟨#[]⟩:ByteArray)]:List Member)<=wD)) <|
 nxO (some (wi (x1.1+(1:Int)),(x1.2.1,x1.2.2.1,x1.2.2.2++([Member.mk y2 (0:Int) (1:Int) (⟨#[]⟩:ByteArray)]:List Member)))))
 (dnO (some (x1.1,(x1.2.1,x1.2.2.1,x1.2.2.2))))
def S50 (a0:ByteArray) (a1:Int):Option Dim :=
 lp (zgw F68 a1) ((0:Int),(a0,(0:Int),([Member.mk (⟨#[97,108,108]⟩:ByteArray) (-1:Int) (0:Int) (⟨#[]⟩:ByteArray)]:List Member))) fun x3 =>
 some (Dim.mk x3.2.1 x3.2.2.1 x3.2.2.2)
def P50:=S50 P68
def k50:CSpec:=⟨50,[.str,.int],(.st .dim),fun x=>P50 x.1 x.2,false,[]⟩
def r50 {S:Seat} (h:Ok1 S 50 tf50):RtF S [k68] (Rt S k50):=okr h rfl fun x=>by kernel_rfl
def tc22:TCode:=.seq (rg [oq 2 (.alloc [.slice none 0 0])]) (.seq (.region [om 3 0,oq 4 (.call true [] 50 [(cs ⟨#[120]⟩),3]),om 5 0,oq 6 (.call true [] 50 [(cs ⟨#[121]⟩),5]),oq 7 (.bslice true 3 [.string ⟨#[]⟩,.int .i64 0,.slice none 0 0] 2 [(0,4),(1,6)]),oq 8 (.build [.slice none 0 0] [(0,1,7)]),on (.store 1 2 8)] [.int,.int,.int,.int,.dim] false) (.ret)) 
def tf22:TFunc:=⟨1,9,[.cell 2 (some 1)],false,tc22,[]⟩
def S22 (a0:Int):Option LD :=
 bno (F50 (⟨#[120]⟩:ByteArray) a0) fun y1 =>
 bno (F50 (⟨#[121]⟩:ByteArray) a0) fun y2 =>
 some ([y1,y2]:List Dim)
def P22:=S22 P50
def k22:CSpec:=⟨22,[.int],(.st .outl),fun x=>P22 x,false,[]⟩
def r22 {S:Seat} (h:Ok1 S 22 tf22):RtF S [k50] (Rt S k22):=okr h rfl fun x=>by kernel_rfl
end
end
section
def zeM {x y:Int}:x<=y↔x < y∨x=y:=by omega
def zgg (zs:List Int) (hz:zs.Pairwise (·<=·)):∀ m,m<=zs.length->(Lib.compactUpTo zs.toArray m).Pairwise (· < ·)∧(∀ x,x∈Lib.compactUpTo zs.toArray m↔x∈zs.take m)∧∀ k y,m=k+1->zs[k]? = some y->∀ x∈Lib.compactUpTo zs.toArray m,x<=y:=by
 intro m
 induction m with
 | zero=>intro _;exact ⟨by simp[Lib.compactUpTo],by simp[Lib.compactUpTo],fun k y e=>by omega⟩
 | succ m ih =>
  intro hm;obtain ⟨i1,i2,i3⟩:=ih (by omega);have hg:zs[m]? = some zs[m]:=Ac (by omega);have e1:zs.toArray[m]! = zs[m]:=by simp[getElem!_pos,show m < zs.length by omega]
  have ht:zs.take (m+1)=zs.take m++[zs[m]]:=by rw[CE,hg];rfl
  rw[Lib.compactUpTo_succ,e1];by_cases hk:Lib.keeps zs.toArray m=true
  ·rw[if_pos hk];have aq:∀ x∈Lib.compactUpTo zs.toArray m,x < zs[m]:=by
    intro x hx;cases m with
    | zero=>simp[Lib.compactUpTo] at hx
    | succ k =>
     have h1:=i3 k zs[k] rfl (Ac (by omega)) x hx;have h2:zs[k]<=zs[k+1]:=(List.pairwise_iff_getElem.1 hz) k (k+1) (by omega) (by omega) (by omega);have e2:zs.toArray[k]! = zs[k]:=by simp[getElem!_pos,show k < zs.length by omega]
     have h3:zs[k+1]≠zs[k]:=by
      unfold Lib.keeps at hk;have:=of_decide_eq_true hk;rcases this with h | h
      ·omega
      ·rw[CA,e2,e1] at h;exact h
     rcases zeM.1 h2 with h2 | h2
     ·rcases zeM.1 h1 with h1 | rfl
      ·exact Int.lt_trans h1 h2
      ·exact h2
     ·exact absurd h2.symm h3
   refine ⟨Cq.2 ⟨i1,by simp,fun x hx y hy => ?_⟩,fun x => ?_,fun k y e hy x hx => ?_⟩
   ·obtain rfl:=Ai.1 hy;exact aq x hx
   ·rw[ht,Ao,Ao,i2]
   ·obtain rfl:k=m:=by omega
    rw[hg] at hy;cases hy;rcases Ao.1 hx with hx | hx
    ·exact zeM.2 (.inl (aq x hx))
    ·obtain rfl:=Ai.1 hx;exact Int.le_refl _
  ·rw[if_neg hk,BN];cases m with
   | zero=>exact absurd (Lib.keeps_lt_one _ 0 (by omega)) hk
   | succ k =>
    have e2:zs.toArray[k]! = zs[k]:=by simp[getElem!_pos,show k < zs.length by omega]
    have h3:zs[k+1]=zs[k]:=(by unfold Lib.keeps at hk;have h:=hk;rw[decide_eq_true_eq] at h;have h:=not_or.1 h;have:=Decidable.not_not.1 h.2;rw[CA,e2,e1] at this;exact this);refine ⟨i1,fun x => ?_,fun k' y e hy x hx => ?_⟩
    ·rw[ht,Ao,i2,Ai];refine ⟨.inl,fun h => ?_⟩;rcases h with h | rfl
     ·exact h
     ·rw[h3];exact List.mem_take_iff_getElem.2 ⟨k,by omega,rfl⟩
    ·obtain rfl:k'=k+1:=by omega
     rw[hg] at hy;cases hy;rw[h3];exact i3 k zs[k] rfl (Ac (by omega)) x hx
def zgM (l:List Int):(l.mergeSort fun x y=>decide (x<=y)).Pairwise (·<=·):=by have h:=List.pairwise_mergeSort (le:=fun (x y:Int)=>decide (x<=y)) (fun a b c h1 h2=>by simp only[decide_eq_true_eq] at *;exact Int.le_trans h1 h2) (fun a b=>by simp only[BS,decide_eq_true_eq];exact Int.le_total a b) l;exact h.imp fun h=>by simpa using h
def setI (l:List Int):List Int:=zgh (zco l)
def zgS (l:List Int):(setI l).Pairwise (· < ·)∧∀ x,x∈setI l↔x∈l:=by obtain ⟨h1,h2,_⟩:=zgg _ (zgM l) _ (AO _);unfold setI zgh Lib.compact;refine ⟨h1,fun x => ?_⟩;rw[show (zco l).length=(l.mergeSort fun x y=>decide (x<=y)).length from rfl];show x∈Lib.compactUpTo (l.mergeSort fun x y=>decide (x<=y)).toArray (l.mergeSort fun x y=>decide (x<=y)).length↔_;rw[h2,Cg];exact (List.mergeSort_perm _ _).mem_iff
end
end Ab
