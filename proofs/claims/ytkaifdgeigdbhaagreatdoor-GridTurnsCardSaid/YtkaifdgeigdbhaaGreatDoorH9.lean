import Derived.Test.YtkaifdgeigdbhaaGreatDoorHF
open List (getElem?_eq_getElem mem_append)
set_option linter.unusedVariables false
set_option linter.unusedSimpArgs false
namespace Ab
open Go
section
theorem zez {x y:Int}:x<=y↔x < y∨x=y:=by omega
theorem zge (zs:List Int) (hz:zs.Pairwise (·<=·)):∀ m,m<=zs.length->(Lib.compactUpTo zs.toArray m).Pairwise (· < ·)∧(∀ x,x∈Lib.compactUpTo zs.toArray m↔x∈zs.take m)∧∀ k y,m=k+1->zs[k]? = some y->∀ x∈Lib.compactUpTo zs.toArray m,x<=y:=by
 intro m
 induction m with
 | zero=>intro _;exact ⟨by simp[Lib.compactUpTo],by simp[Lib.compactUpTo],fun k y e=>by omega⟩
 | succ m ih =>
  intro hm;obtain ⟨i1,i2,i3⟩:=ih (by omega);have hg:zs[m]? = some zs[m]:=getElem?_eq_getElem (by omega);have e1:zs.toArray[m]! = zs[m]:=by simp[getElem!_pos,show m < zs.length by omega]
  have ht:zs.take (m+1)=zs.take m++[zs[m]]:=by rw[List.take_add_one,hg];rfl
  rw[Lib.compactUpTo_succ,e1];by_cases hk:Lib.keeps zs.toArray m=true
  ·rw[if_pos hk];have hlt:∀ x∈Lib.compactUpTo zs.toArray m,x < zs[m]:=by
    intro x hx;cases m with
    | zero=>simp[Lib.compactUpTo] at hx
    | succ k =>
     have h1:=i3 k zs[k] rfl (getElem?_eq_getElem (by omega)) x hx;have h2:zs[k]<=zs[k+1]:=(List.pairwise_iff_getElem.1 hz) k (k+1) (by omega) (by omega) (by omega);have e2:zs.toArray[k]! = zs[k]:=by simp[getElem!_pos,show k < zs.length by omega]
     have h3:zs[k+1]≠zs[k]:=by
      unfold Lib.keeps at hk;have:=of_decide_eq_true hk;rcases this with h | h
      ·omega
      ·rw[Nat.add_sub_cancel,e2,e1] at h;exact h
     rcases zez.1 h2 with h2 | h2
     ·rcases zez.1 h1 with h1 | rfl
      ·exact Int.lt_trans h1 h2
      ·exact h2
     ·exact absurd h2.symm h3
   refine ⟨List.pairwise_append.2 ⟨i1,by simp,fun x hx y hy => ?_⟩,fun x => ?_,fun k y e hy x hx => ?_⟩
   ·obtain rfl:=List.mem_singleton.1 hy;exact hlt x hx
   ·rw[ht,mem_append,mem_append,i2]
   ·obtain rfl:k=m:=by omega
    rw[hg] at hy;cases hy;rcases mem_append.1 hx with hx | hx
    ·exact zez.2 (.inl (hlt x hx))
    ·obtain rfl:=List.mem_singleton.1 hx;exact Int.le_refl _
  ·rw[if_neg hk,List.append_nil];cases m with
   | zero=>exact absurd (Lib.keeps_lt_one _ 0 (by omega)) hk
   | succ k =>
    have e2:zs.toArray[k]! = zs[k]:=by simp[getElem!_pos,show k < zs.length by omega]
    have h3:zs[k+1]=zs[k]:=(by unfold Lib.keeps at hk;have h:=hk;rw[decide_eq_true_eq] at h;have h:=not_or.1 h;have:=Decidable.not_not.1 h.2;rw[Nat.add_sub_cancel,e2,e1] at this;exact this);refine ⟨i1,fun x => ?_,fun k' y e hy x hx => ?_⟩
    ·rw[ht,mem_append,i2,List.mem_singleton];refine ⟨.inl,fun h => ?_⟩;rcases h with h | rfl
     ·exact h
     ·rw[h3];exact List.mem_take_iff_getElem.2 ⟨k,by omega,rfl⟩
    ·obtain rfl:k'=k+1:=by omega
     rw[hg] at hy;cases hy;rw[h3];exact i3 k zs[k] rfl (getElem?_eq_getElem (by omega)) x hx
theorem zgD (l:List Int):(l.mergeSort fun x y=>decide (x<=y)).Pairwise (·<=·):=by have h:=List.pairwise_mergeSort (le:=fun (x y:Int)=>decide (x<=y)) (fun a b c h1 h2=>by simp only[decide_eq_true_eq] at *;exact Int.le_trans h1 h2) (fun a b=>by simp only[Bool.or_eq_true,decide_eq_true_eq];exact Int.le_total a b) l;exact h.imp fun h=>by simpa using h
def setI (l:List Int):List Int:=zgf (zcb l)
theorem zea (l:List Int):(setI l).Pairwise (· < ·)∧∀ x,x∈setI l↔x∈l:=by obtain ⟨h1,h2,_⟩:=zge _ (zgD l) _ (Nat.le_refl _);unfold setI zgf Lib.compact;refine ⟨h1,fun x => ?_⟩;rw[show (zcb l).length=(l.mergeSort fun x y=>decide (x<=y)).length from rfl];show x∈Lib.compactUpTo (l.mergeSort fun x y=>decide (x<=y)).toArray (l.mergeSort fun x y=>decide (x<=y)).length↔_;rw[h2,List.take_length];exact (List.mergeSort_perm _ _).mem_iff
end
section
structure Rooted (l:List Member):Prop where
 up:∀ (i:Nat) (m:Member),l[i]? = some m -> -1<=m.parent∧m.parent < i
 sign:∀ (i:Nat) (m:Member),l[i]? = some m -> -1<=m.sign∧m.sign<=1
 form:∀ (i:Nat) (m:Member),l[i]? = some m->0<=m.parent->hasF l m.parent=false
theorem zcp {l:List Member} {i:Nat} {m:Member} (h:yu l i m=0):zY m.name=false∧((l.take i).any fun x=>decide (x.name=m.name))=false∧(-1<=m.parent∧m.parent < i)∧(0<=m.parent->hasF l m.parent=false)∧(-1<=m.sign∧m.sign<=1)∧m.formula.size<=100:=by
 unfold yu at h;by_cases h1:zY m.name=true
 ·rw[if_pos h1] at h;cases h
 rw[if_neg h1] at h;by_cases h2:((l.take i).any fun x=>decide (x.name=m.name))=true
 ·rw[if_pos h2] at h;cases h
 rw[if_neg h2] at h;by_cases h3:m.parent < -1∨(i:Int)<=m.parent
 ·rw[if_pos h3] at h;cases h
 rw[if_neg h3] at h;by_cases h4:0<=m.parent∧hasF l m.parent=true
 ·rw[if_pos h4] at h;cases h
 rw[if_neg h4] at h;by_cases h5:m.sign < -1∨1 < m.sign
 ·rw[if_pos h5] at h;cases h
 rw[if_neg h5] at h;by_cases h6:100 < m.formula.size
 ·rw[if_pos h6] at h;cases h
 refine ⟨by simpa using h1,by simpa using h2,by omega,fun hp => ?_,by omega,by omega⟩;cases hf:hasF l m.parent with
 | false=>rfl
 | true=>exact absurd ⟨hp,hf⟩ h4
theorem DimOk.rooted {d:Dim} (h:DimOk d):Rooted d.members :=
 ⟨fun i m hi=>(zcp (h.mem i m hi)).2.2.1,fun i m hi=>(zcp (h.mem i m hi)).2.2.2.2.1,fun i m hi=>(zcp (h.mem i m hi)).2.2.2.1⟩
def idxs (p:Nat->Bool) (n:Nat):List Int:=((List.range n).filter p).map fun (k:Nat)=>(k:Int)
theorem idxs_succ (p:Nat->Bool) (n:Nat):idxs p (n+1)=match p n with | true=>idxs p n++[(n:Int)] | false=>idxs p n:=by unfold idxs;rw[List.range_succ,List.filter_append];cases h:p n<;>simp[h]
theorem zbT (p:Nat->Bool) (n:Nat):(idxs p n).length<=n:=by unfold idxs;rw[List.length_map];have:=List.length_filter_le p (List.range n);simpa using this
theorem zhQ {p:Nat->Bool} {n:Nat} {x:Int}:x∈idxs p n↔∃ k:Nat,x=k∧k < n∧p k=true:=by unfold idxs;simp only[List.mem_map,List.mem_filter,List.mem_range];exact ⟨fun ⟨k,⟨h1,h2⟩,h3⟩=>⟨k,h3.symm,h1,h2⟩,fun ⟨k,h1,h2,h3⟩=>⟨k,⟨h2,h3⟩,h1.symm⟩⟩
theorem idxs_loop {α:Type} {B:(List Int×Int)->Option (LR (List Int×Int) α)} (p:Nat->Bool) (n:Nat) (h:∀ (i:Nat) (acc:List Int),i < n->acc.length<=i->B (acc,(i:Int))=some (.nx (match p i with | true=>acc++[(i:Int)] | false=>acc,(i:Int)+1))) (hn:∀ acc,B (acc,(n:Int))=some (.dn (acc,(n:Int)))) :
  lpO B ([],0)=some (.inl (idxs p n,(n:Int))):=by
 have:=(zJ (B:=B) (fun i=>(idxs p i,(i:Int))) n fun i hi=>by
  rw[h i _ hi (zbT p i),idxs_succ];rfl).trans (qm (hn _))
 exact this
def zhZ (l:List Member) (i:Int) (k:Nat):Bool:=match l[k]? with | some m=>decide (m.parent=i) | none=>false
def partsOf (l:List Member) (i:Int):List Int:=idxs (zhZ l i) l.length
theorem P47_eq {d:Dim} (hl:d.members.length<=1000) (i:Int):P47 d i=some (partsOf d.members i):=by
 simp only[P47,S47,qY];rw[idxs_loop (zhZ d.members i) d.members.length (fun k acc hk ha => ?_) (fun acc=>by simp[S47_L1])]
 ·rfl
 ·have e:((k:Nat):Int) < ((d.members.length:Nat):Int):=by omega
  have hr:acc.length+1<=zF:=by unfold zF;omega
  simp only[S47_L1,e,decide_true,zo,zh,getElem?_eq_getElem hk,zl,zhZ,List.length_singleton,zC hr,zM,wn];rw[ju (by omega) (by omega)];by_cases h:(d.members[k]).parent=i<;>simp[h]
def zcs (l:List Member) (k:Nat):Bool:=match l[k]? with | some m=>decide (m.formula=⟨#[]⟩) && decide (partsOf l k=[]) | none=>false
theorem P44_eq {d:Dim} (hl:d.members.length<=1000) {k:Nat} (hk:k < d.members.length):P44 d k=some (zcs d.members k):=by have e:decide (((List.length (partsOf d.members k):Nat):Int)=0)=decide (partsOf d.members k=[]):=(by congr 1;rw[← List.length_eq_zero_iff];exact propext ⟨fun h=>by omega,fun h=>by omega⟩);simp only[P44,S44,zh,getElem?_eq_getElem hk,zl,P47_eq hl,zcs,e];by_cases h:(d.members[k]).formula=⟨#[]⟩<;>simp[h]
def sgn (l:List Member) (x:Int):Int:=match l[x.toNat]? with | some m=>m.sign | none=>0
section
variable {d:Dim}
end
end
section
theorem P97_eq (s:ByteArray):P97 s=some (if zY s=true then 2 else 0):=by
 by_cases h1:s=⟨#[]⟩
 ·subst h1;simp[P97,S97,zY]
 by_cases h2:8 < s.size
 ·have:(8:Int) < ((s.size:Nat):Int):=by omega
  simp[P97,S97,zY,h1,h2,this]
 have h3:¬ (8:Int) < ((s.size:Nat):Int):=by omega
 have hsz:s.data.toList.length=s.size:=rfl;simp only[P97,S97,h1,h3,decide_false,zg,zM,ji];rw[zbZ (fun c:UInt8=>decide (c.toNat < 97) || decide (122 < c.toNat)) s.data.toList 2 0 (fun i y hy => ?_) (by rw[hsz];simp[S97_L1])]
 ·simp[zY,h1,h2]
 ·have hi:=(List.getElem?_eq_some_iff.1 hy).1;have e:((i:Nat):Int) < ((s.size:Nat):Int):=by omega
  simp only[S97_L1,e,decide_true,zo,zh,hy,zl];rw[ju (by omega) (by omega)];have e1:((y.toNat:Nat):Int) < 97↔y.toNat < 97:=by omega
  have e2:122 < ((y.toNat:Nat):Int)↔122 < y.toNat:=by omega
  by_cases c1:y.toNat < 97<;>by_cases c2:122 < y.toNat<;>simp[e1,e2,c1,c2]
end
section
def within (n:Int):Bool:=decide (-1000000000000<=n) && decide (n<=1000000000000)
def w7 (n:Int):Cell:=if within n then ⟨1,n⟩ else ⟨2,0⟩
def yP (a b:Cell) (s:Int):Cell:=if a.k=2∨b.k=2 then ⟨2,0⟩ else if a.k=0∧b.k=0 then ⟨0,0⟩ else w7 (wi (a.n+wi (s * b.n)))
def yQ (c:Cell):Prop:=c.k < 0∨2 < c.k∨within c.n=false∨(¬ c.k=1∧¬ c.n=0)
instance (c : Cell) : Decidable (yQ c) := by unfold yQ; infer_instance
def zcJ (a b:Cell):Cell:=if a.k=2∨b.k=2 then ⟨2,0⟩ else if a.k=0∨b.k=0 then ⟨0,0⟩ else if ¬ a.n=0∧wi (Int.tdiv 1000000000000 (maxT a.n (wi (-a.n)))) < maxT b.n (wi (-b.n)) then ⟨2,0⟩ else w7 (wi (a.n * b.n))
def cover (a b:Cell):Cell:=if a.k=2∨b.k=2 then ⟨2,0⟩ else if a.k=0∨b.k=0 then ⟨0,0⟩ else if b.n=0 then ⟨2,0⟩ else w7 (wi (Int.tdiv a.n b.n))
@[simp] theorem P30_eq (n:Int):P30 n=some (within n):=by simp[P30,S30,within]
@[simp] theorem P8_eq (n:Int):P8 n=some (w7 n):=by simp[P8,S8,w7];cases within n<;>rfl
@[simp] theorem P33_eq (a b:Cell) (s:Int):P33 a b s=some (yP a b s):=by
 simp[P33,S33,yP,br_eq]
 repeat' split
 all_goals first | rfl | (simp_all;done)
@[simp] theorem P52_eq (c:Cell):P52 c=some (if yQ c then .no 1 else .nil):=by
 by_cases h1:c.k < 0
 ·simp[P52,S52,yQ,h1]
 by_cases h2:2 < c.k
 ·simp[P52,S52,yQ,h2]
 by_cases h3:within c.n=true
 ·by_cases h4:c.k=1
  ·simp[P52,S52,yQ,h3,h4]
  ·have e:br (decide (¬ c.n=0)) (some (Err.no 1)) (some Err.nil)=some (if ¬ c.n=0 then Err.no 1 else Err.nil):=by rw[zu];split<;>rfl
   simp[P52,S52,yQ,h1,h2,h3,h4];by_cases h5:c.n=0
   ·simp[h5]
   ·simp[h5]
 ·simp[P52,S52,yQ,h1,h2,h3]
@[simp] theorem P62_eq (n:Int):P62 n=some (maxT n (wi (-n))):=by simp[P62,S62]
theorem size_eq {n:Int} (h:within n=true):maxT n (wi (-n))=if n < 0 then -n else n:=by
 simp only[within,Bool.and_eq_true,decide_eq_true_eq] at h;rw[ju (by omega) (by omega)];unfold maxT
 split<;>split<;>omega
theorem P34_eq {a:Cell} (b:Cell) (ha:within a.n=true):P34 a b=some (zcJ a b):=by
 by_cases h:a.n=0
 ·simp[P34,S34,zcJ,br_eq,h]
  repeat' split
  all_goals first | rfl | (simp_all;done)
 ·have h':¬ maxT a.n (wi (-a.n))=0:=by rw[size_eq ha];split<;>omega
  simp[P34,S34,zcJ,br_eq,h,h']
  repeat' split
  all_goals first | rfl | (simp_all;done)
@[simp] theorem P35_eq (a b:Cell):P35 a b=some (cover a b):=by
 by_cases h:b.n=0
 ·simp[P35,S35,cover,br_eq,h]
  repeat' split
  all_goals first | rfl | (simp_all;done)
 ·simp[P35,S35,cover,br_eq,h]
  repeat' split
  all_goals first | rfl | (simp_all;done)
def zgi (a b c:Cell):Cell×Err:=if yQ a∨yQ b then (⟨0,0⟩,.no 1) else (c,.nil)
@[simp] theorem P9_eq (a b:Cell):P9 a b=some (zgi a b (yP a b 1)):=by by_cases h1:yQ a<;>by_cases h2:yQ b<;>simp[P9,S9,P31_32,S31_32,P32,S32,zgi,h1,h2]
@[simp] theorem P12_eq (a b:Cell):P12 a b=some (zgi a b (yP a b (-1))):=by by_cases h1:yQ a<;>by_cases h2:yQ b<;>simp[P12,S12,P31_36,S31_36,P36,S36,zgi,h1,h2]
@[simp] theorem P10_eq (a b:Cell):P10 a b=some (zgi a b (zcJ a b)):=by by_cases h1:yQ a<;>by_cases h2:yQ b<;>simp[P10,S10,P31_34,S31_34,zgi,h1,h2];rw[P34_eq b (by simp only[yQ,not_or] at h1;simpa using h1.2.2.1)];rfl
@[simp] theorem P11_eq (a b:Cell):P11 a b=some (zgi a b (cover a b)):=by by_cases h1:yQ a<;>by_cases h2:yQ b<;>simp[P11,S11,P31_35,S31_35,zgi,h1,h2]
end
section
end
section
end
end Ab
