import Derived.Test.YtchidgkpkhloeaaGreatDoorHF
open List (getElem?_eq_getElem mem_append mem_cons mem_singleton)
open Int (lt_irrefl)
open Bool (and_eq_true)
set_option linter.unusedVariables false
set_option linter.unusedSimpArgs false
namespace Ab
open Go
section
theorem zeQ {x y:Int}:x<=y↔x < y∨x=y:=by omega
theorem zg4:∀ {as bs:List Int},as.Pairwise (· < ·)->bs.Pairwise (· < ·)->(∀ x,x∈as↔x∈bs)->as=bs
 | [],[],_,_,_=>rfl
 | [],b :: bs,_,_,h=>absurd ((h b).2 (by simp)) (by simp)
 | a :: as,[],_,_,h=>absurd ((h a).1 (by simp)) (by simp)
 | a :: as,b :: bs,ha,hb,h=>by
  obtain ⟨ha1,ha2⟩:=List.pairwise_cons.1 ha;obtain ⟨hb1,hb2⟩:=List.pairwise_cons.1 hb;have e:a=b:=by
   rcases mem_cons.1 ((h a).1 (by simp)) with e | hm
   ·exact e
   ·rcases mem_cons.1 ((h b).2 (by simp)) with e | hm2
    ·exact e.symm
    ·exact absurd (Int.lt_trans (hb1 a hm) (ha1 b hm2)) (lt_irrefl b)
  subst e;congr 1;refine zg4 ha2 hb2 fun x => ?_;have hx:=h x;simp only[mem_cons] at hx;refine ⟨fun hm => ?_,fun hm => ?_⟩
  ·rcases hx.1 (.inr hm) with rfl | hm2
   ·exact absurd (ha1 x hm) (lt_irrefl x)
   ·exact hm2
  ·rcases hx.2 (.inr hm) with rfl | hm2
   ·exact absurd (hb1 x hm) (lt_irrefl x)
   ·exact hm2
theorem zgG (zs:List Int) (hz:zs.Pairwise (·<=·)):∀ m,m<=zs.length->(Lib.compactUpTo zs.toArray m).Pairwise (· < ·)∧(∀ x,x∈Lib.compactUpTo zs.toArray m↔x∈zs.take m)∧∀ k y,m=k+1->zs[k]? = some y->∀ x∈Lib.compactUpTo zs.toArray m,x<=y:=by
 intro m
 induction m with
 | zero=>intro _;exact ⟨by simp[Lib.compactUpTo],by simp[Lib.compactUpTo],fun k y e=>by omega⟩
 | succ m ih =>
  intro hm;obtain ⟨i1,i2,i3⟩:=ih (by omega);have hg:zs[m]? = some zs[m]:=getElem?_eq_getElem (by omega);have e1:zs.toArray[m]! = zs[m]:=by simp[getElem!_pos,show m < zs.length by omega]
  have ht:zs.take (m+1)=zs.take m++[zs[m]]:=by rw[List.take_add_one,hg];rfl
  rw[Lib.compactUpTo_succ,e1];by_cases hk:Lib.keeps zs.toArray m=true
  ·rw[if_pos hk];have hlt:∀ x∈Lib.compactUpTo zs.toArray m,x < zs[m]:=by
    intro x hx;cases m with
    | zero=>simp[Lib.compactUpTo] at hx
    | succ k =>
     have h1:=i3 k zs[k] rfl (getElem?_eq_getElem (by omega)) x hx;have h2:zs[k]<=zs[k+1]:=(List.pairwise_iff_getElem.1 hz) k (k+1) (by omega) (by omega) (by omega);have e2:zs.toArray[k]! = zs[k]:=by simp[getElem!_pos,show k < zs.length by omega]
     have h3:zs[k+1]≠zs[k]:=by
      unfold Lib.keeps at hk;have:=of_decide_eq_true hk;rcases this with h | h
      ·omega
      ·rw[Nat.add_sub_cancel,e2,e1] at h;exact h
     rcases zeQ.1 h2 with h2 | h2
     ·rcases zeQ.1 h1 with h1 | rfl
      ·exact Int.lt_trans h1 h2
      ·exact h2
     ·exact absurd h2.symm h3
   refine ⟨List.pairwise_append.2 ⟨i1,by simp,fun x hx y hy => ?_⟩,fun x => ?_,fun k y e hy x hx => ?_⟩
   ·obtain rfl:=mem_singleton.1 hy;exact hlt x hx
   ·rw[ht,mem_append,mem_append,i2]
   ·obtain rfl:k=m:=by omega
    rw[hg] at hy;cases hy;rcases mem_append.1 hx with hx | hx
    ·exact zeQ.2 (.inl (hlt x hx))
    ·obtain rfl:=mem_singleton.1 hx;exact Int.le_refl _
  ·rw[if_neg hk,List.append_nil];cases m with
   | zero=>exact absurd (Lib.keeps_lt_one _ 0 (by omega)) hk
   | succ k =>
    have e2:zs.toArray[k]! = zs[k]:=by simp[getElem!_pos,show k < zs.length by omega]
    have h3:zs[k+1]=zs[k]:=(by unfold Lib.keeps at hk;have h:=hk;rw[decide_eq_true_eq] at h;have h:=not_or.1 h;have:=Decidable.not_not.1 h.2;rw[Nat.add_sub_cancel,e2,e1] at this;exact this);refine ⟨i1,fun x => ?_,fun k' y e hy x hx => ?_⟩
    ·rw[ht,mem_append,i2,mem_singleton];refine ⟨.inl,fun h => ?_⟩;rcases h with h | rfl
     ·exact h
     ·rw[h3];exact List.mem_take_iff_getElem.2 ⟨k,by omega,rfl⟩
    ·obtain rfl:k'=k+1:=by omega
     rw[hg] at hy;cases hy;rw[h3];exact i3 k zs[k] rfl (getElem?_eq_getElem (by omega)) x hx
theorem zg7 (l:List Int):(l.mergeSort fun x y=>decide (x<=y)).Pairwise (·<=·):=by have h:=List.pairwise_mergeSort (le:=fun (x y:Int)=>decide (x<=y)) (fun a b c h1 h2=>by simp only[decide_eq_true_eq] at *;exact Int.le_trans h1 h2) (fun a b=>by simp only[Bool.or_eq_true,decide_eq_true_eq];exact Int.le_total a b) l;exact h.imp fun h=>by simpa using h
def setI (l:List Int):List Int:=zgH (yB l)
theorem zam (l:List Int):(setI l).Pairwise (· < ·)∧∀ x,x∈setI l↔x∈l:=by obtain ⟨h1,h2,_⟩:=zgG _ (zg7 l) _ (Nat.le_refl _);unfold setI zgH Lib.compact;refine ⟨h1,fun x => ?_⟩;rw[show (yB l).length=(l.mergeSort fun x y=>decide (x<=y)).length from rfl];show x∈Lib.compactUpTo (l.mergeSort fun x y=>decide (x<=y)).toArray (l.mergeSort fun x y=>decide (x<=y)).length↔_;rw[h2,List.take_length];exact (List.mergeSort_perm _ _).mem_iff
def insI (l:List Int) (n:Int):List Int:=let k:=(l.takeWhile fun a=>decide (a < n)).length;if l[k]? = some n then l else l.take k++[n]++l.drop k
theorem takeWI {α:Type} (p:α->Bool):∀ (l:List α),(∀ x∈l.take (l.takeWhile p).length,p x=true)∧(∀ y,l[(l.takeWhile p).length]? = some y->p y=false)∧(l.takeWhile p).length<=l.length
 | []=>⟨by simp,by simp,by simp⟩
 | a :: r=>by
  obtain ⟨h1,h2,h3⟩:=takeWI p r;by_cases e:p a=true
  ·rw[List.takeWhile_cons_of_pos e];refine ⟨fun x hx => ?_,fun y hy => ?_,by simp;exact h3⟩
   ·simp only[List.length_cons,List.take_succ_cons,mem_cons] at hx;rcases hx with rfl | hx
    ·exact e
    ·exact h1 x hx
   ·exact h2 y (by simpa using hy)
  ·rw[List.takeWhile_cons_of_neg e];exact ⟨by simp,fun y hy=>by simp at hy;subst hy;simpa using e,by simp⟩
theorem insI_ok {l:List Int} {n:Int} (h:l.Pairwise (· < ·)):(insI l n).Pairwise (· < ·)∧∀ x,x∈insI l n↔x∈l∨x=n:=by
 obtain ⟨w1,w2,w3⟩:=takeWI (fun a=>decide (a < n)) l;unfold insI;generalize (l.takeWhile fun a=>decide (a < n)).length=k at *;simp only;by_cases hk:l[k]? = some n
 ·rw[if_pos hk];refine ⟨h,fun x=>⟨.inl, ?_⟩⟩;rintro (hx | rfl)
  ·exact hx
  ·exact List.mem_of_getElem? hk
 ·rw[if_neg hk];have hsplit:l.take k++l.drop k=l:=List.take_append_drop k l;have hlt:∀ x∈l.take k,x < n:=fun x hx=>by simpa using w1 x hx
  have hgt:∀ x∈l.drop k,n < x:=by
   intro x hx;obtain ⟨j,hj,rfl⟩:=List.getElem_of_mem hx;rw[List.length_drop] at hj;rw[List.getElem_drop];have hkl:k < l.length:=by omega
   have h0:=w2 l[k] (getElem?_eq_getElem hkl);rw[decide_eq_false_iff_not] at h0;have h1:l[k]≠n:=fun e=>hk (by rw[getElem?_eq_getElem hkl,e]);by_cases e:j=0
   ·subst e;simp only[Nat.add_zero];omega
   ·have:=(List.pairwise_iff_getElem.1 h) k (k+j) hkl (by omega) (by omega);omega
  constructor
  ·rw[List.append_assoc,List.pairwise_append];refine ⟨h.sublist (List.take_sublist _ _), ?_,fun x hx y hy => ?_⟩
   ·rw[List.singleton_append,List.pairwise_cons];exact ⟨hgt,h.sublist (List.drop_sublist _ _)⟩
   ·have:=hlt x hx;rcases mem_append.1 hy with hy | hy
    ·rw[mem_singleton.1 hy];exact this
    ·have:=hgt y hy;omega
  ·intro x;rw[List.append_assoc,mem_append,List.singleton_append,mem_cons];constructor
   ·rintro (hx | rfl | hx)
    ·exact .inl (List.mem_of_mem_take hx)
    ·exact .inr rfl
    ·exact .inl (List.mem_of_mem_drop hx)
   ·rintro (hx | rfl)
    ·rw[← hsplit,mem_append] at hx;rcases hx with hx | hx
     ·exact .inl hx
     ·exact .inr (.inr hx)
    ·exact .inr (.inl rfl)
theorem zgq:∀ (l acc:List Int),acc.Pairwise (· < ·)->(l.foldl insI acc).Pairwise (· < ·)∧∀ x,x∈l.foldl insI acc↔x∈acc∨x∈l
 | [],acc,h=>⟨h,by simp⟩
 | a :: r,acc,h=>by
  obtain ⟨h1,h2⟩:=insI_ok (n:=a) h;obtain ⟨h3,h4⟩:=zgq r _ h1;refine ⟨h3,fun x => ?_⟩;rw[List.foldl_cons,h4,h2,mem_cons];constructor
  ·rintro ((h | h) | h)
   ·exact .inl h
   ·exact .inr (.inl h)
   ·exact .inr (.inr h)
  ·rintro (h | h | h)
   ·exact .inl (.inl h)
   ·exact .inl (.inr h)
   ·exact .inr h
end
section
structure Rooted (l:List Member):Prop where
 up:∀ (i:Nat) (m:Member),l[i]? = some m -> -1<=m.parent∧m.parent < i
 sign:∀ (i:Nat) (m:Member),l[i]? = some m -> -1<=m.sign∧m.sign<=1
 form:∀ (i:Nat) (m:Member),l[i]? = some m->0<=m.parent->hasF l m.parent=false
theorem zcE {l:List Member} {i:Nat} {m:Member} (h:yI l i m=0):zZ m.name=false∧((l.take i).any fun x=>decide (x.name=m.name))=false∧(-1<=m.parent∧m.parent < i)∧(0<=m.parent->hasF l m.parent=false)∧(-1<=m.sign∧m.sign<=1)∧m.formula.size<=100:=by
 unfold yI at h;by_cases h1:zZ m.name=true
 ·rw[if_pos h1] at h;cases h
 rw[if_neg h1] at h;by_cases h2:((l.take i).any fun x=>decide (x.name=m.name))=true
 ·rw[if_pos h2] at h;cases h
 rw[if_neg h2] at h;by_cases h3:m.parent < -1∨(i:Int)<=m.parent
 ·rw[if_pos h3] at h;cases h
 rw[if_neg h3] at h;by_cases h4:0<=m.parent∧hasF l m.parent=true
 ·rw[if_pos h4] at h;cases h
 rw[if_neg h4] at h;by_cases h5:m.sign < -1∨1 < m.sign
 ·rw[if_pos h5] at h;cases h
 rw[if_neg h5] at h;by_cases h6:100 < m.formula.size
 ·rw[if_pos h6] at h;cases h
 refine ⟨by simpa using h1,by simpa using h2,by omega,fun hp => ?_,by omega,by omega⟩;cases hf:hasF l m.parent with
 | false=>rfl
 | true=>exact absurd ⟨hp,hf⟩ h4
theorem DimOk.rooted {d:Dim} (h:DimOk d):Rooted d.members :=
 ⟨fun i m hi=>(zcE (h.mem i m hi)).2.2.1,fun i m hi=>(zcE (h.mem i m hi)).2.2.2.2.1,fun i m hi=>(zcE (h.mem i m hi)).2.2.2.1⟩
def idxs (p:Nat->Bool) (n:Nat):List Int:=((List.range n).filter p).map fun (k:Nat)=>(k:Int)
theorem idxs_succ (p:Nat->Bool) (n:Nat):idxs p (n+1)=match p n with | true=>idxs p n++[(n:Int)] | false=>idxs p n:=by unfold idxs;rw[List.range_succ,List.filter_append];cases h:p n<;>simp[h]
theorem zaU (p:Nat->Bool) (n:Nat):(idxs p n).length<=n:=by unfold idxs;rw[List.length_map];have:=List.length_filter_le p (List.range n);simpa using this
theorem ziz {p:Nat->Bool} {n:Nat} {x:Int}:x∈idxs p n↔∃ k:Nat,x=k∧k < n∧p k=true:=by unfold idxs;simp only[List.mem_map,List.mem_filter,List.mem_range];exact ⟨fun ⟨k,⟨h1,h2⟩,h3⟩=>⟨k,h3.symm,h1,h2⟩,fun ⟨k,h1,h2,h3⟩=>⟨k,⟨h2,h3⟩,h1.symm⟩⟩
theorem zgj {α:Type} {B:(List Int×Int)->Option (LR (List Int×Int) α)} (p:Nat->Bool) (n:Nat) (h:∀ (i:Nat) (acc:List Int),i < n->acc.length<=i->B (acc,(i:Int))=some (.nx (match p i with | true=>acc++[(i:Int)] | false=>acc,(i:Int)+1))) (hn:∀ acc,B (acc,(n:Int))=some (.dn (acc,(n:Int)))) :
  lpO B ([],0)=some (.inl (idxs p n,(n:Int))):=by
 have:=(zJ (B:=B) (fun i=>(idxs p i,(i:Int))) n fun i hi=>by
  rw[h i _ hi (zaU p i),idxs_succ];rfl).trans (zP (hn _))
 exact this
def zea (l:List Member) (i:Int) (k:Nat):Bool:=match l[k]? with | some m=>decide (m.parent=i) | none=>false
def partsOf (l:List Member) (i:Int):List Int:=idxs (zea l i) l.length
theorem P47_eq {d:Dim} (hl:d.members.length<=1000) (i:Int):P47 d i=some (partsOf d.members i):=by
 simp only[P47,S47,qy];rw[zgj (zea d.members i) d.members.length (fun k acc hk ha => ?_) (fun acc=>by simp[S47_L1])]
 ·rfl
 ·have e:((k:Nat):Int) < ((d.members.length:Nat):Int):=by omega
  have hr:acc.length+1<=zu:=by unfold zu;omega
  simp only[S47_L1,e,decide_true,zm,zb,getElem?_eq_getElem hk,zi,zea,List.length_singleton,zp hr,zx,yH];rw[qL (by omega) (by omega)];by_cases h:(d.members[k]).parent=i<;>simp[h]
def wC (l:List Member) (k:Nat):Bool:=match l[k]? with | some m=>decide (m.formula=⟨#[]⟩) && decide (partsOf l k=[]) | none=>false
theorem P44_eq {d:Dim} (hl:d.members.length<=1000) {k:Nat} (hk:k < d.members.length):P44 d k=some (wC d.members k):=by have e:decide (((List.length (partsOf d.members k):Nat):Int)=0)=decide (partsOf d.members k=[]):=(by congr 1;rw[← List.length_eq_zero_iff];exact propext ⟨fun h=>by omega,fun h=>by omega⟩);simp only[P44,S44,zb,getElem?_eq_getElem hk,zi,P47_eq hl,wC,e];by_cases h:(d.members[k]).formula=⟨#[]⟩<;>simp[h]
def sgn (l:List Member) (x:Int):Int:=match l[x.toNat]? with | some m=>m.sign | none=>0
section
variable {d:Dim}
end
end
section
theorem P97_eq (s:ByteArray):P97 s=some (if zZ s=true then 2 else 0):=by
 by_cases h1:s=⟨#[]⟩
 ·subst h1;simp[P97,S97,zZ]
 by_cases h2:8 < s.size
 ·have:(8:Int) < ((s.size:Nat):Int):=by omega
  simp[P97,S97,zZ,h1,h2,this]
 have h3:¬ (8:Int) < ((s.size:Nat):Int):=by omega
 have hsz:s.data.toList.length=s.size:=rfl;simp only[P97,S97,h1,h3,decide_false,zd,zx,qp];rw[zfj (fun c:UInt8=>decide (c.toNat < 97) || decide (122 < c.toNat)) s.data.toList 2 0 (fun i y hy => ?_) (by rw[hsz];simp[S97_L1])]
 ·simp[zZ,h1,h2]
 ·have hi:=(List.getElem?_eq_some_iff.1 hy).1;have e:((i:Nat):Int) < ((s.size:Nat):Int):=by omega
  simp only[S97_L1,e,decide_true,zm,zb,hy,zi];rw[qL (by omega) (by omega)];have e1:((y.toNat:Nat):Int) < 97↔y.toNat < 97:=by omega
  have e2:122 < ((y.toNat:Nat):Int)↔122 < y.toNat:=by omega
  by_cases c1:y.toNat < 97<;>by_cases c2:122 < y.toNat<;>simp[e1,e2,c1,c2]
theorem P96_eq (d:Dim) (s:ByteArray) (h:d.members.length<=9223372036854775807):P96 d s=some (qM d.members s):=by
 refine jT _ d.members (fun i y hy => ?_) (by simp[S96_L1]);have hi:=(List.getElem?_eq_some_iff.1 hy).1;have e:(((i:Nat):Int) < ((d.members.length:Nat):Int)):=by omega
 simp only[S96_L1,zb,hy,zi,e,decide_true,zm];rw[qL (by omega) (by omega)];cases decide (y.name=s)<;>rfl
end
section
def within (n:Int):Bool:=decide (-1000000000000<=n) && decide (n<=1000000000000)
def yM (n:Int):Cell:=if within n then ⟨1,n⟩ else ⟨2,0⟩
def wG (a b:Cell) (s:Int):Cell:=if a.k=2∨b.k=2 then ⟨2,0⟩ else if a.k=0∧b.k=0 then ⟨0,0⟩ else yM (wi (a.n+wi (s * b.n)))
def zff (c:Cell):Prop:=c.k < 0∨2 < c.k∨within c.n=false∨(¬ c.k=1∧¬ c.n=0)
instance (c : Cell) : Decidable (zff c) := by unfold zff; infer_instance
def zbP (a b:Cell):Cell:=if a.k=2∨b.k=2 then ⟨2,0⟩ else if a.k=0∨b.k=0 then ⟨0,0⟩ else if ¬ a.n=0∧wi (Int.tdiv 1000000000000 (maxT a.n (wi (-a.n)))) < maxT b.n (wi (-b.n)) then ⟨2,0⟩ else yM (wi (a.n * b.n))
def cover (a b:Cell):Cell:=if a.k=2∨b.k=2 then ⟨2,0⟩ else if a.k=0∨b.k=0 then ⟨0,0⟩ else if b.n=0 then ⟨2,0⟩ else yM (wi (Int.tdiv a.n b.n))
@[simp] theorem P30_eq (n:Int):P30 n=some (within n):=by simp[P30,S30,within]
@[simp] theorem P8_eq (n:Int):P8 n=some (yM n):=by simp[P8,S8,yM];cases within n<;>rfl
@[simp] theorem P33_eq (a b:Cell) (s:Int):P33 a b s=some (wG a b s):=by
 simp[P33,S33,wG,br_eq]
 repeat' split
 all_goals first | rfl | (simp_all;done)
@[simp] theorem P52_eq (c:Cell):P52 c=some (if zff c then .no 1 else .nil):=by
 by_cases h1:c.k < 0
 ·simp[P52,S52,zff,h1]
 by_cases h2:2 < c.k
 ·simp[P52,S52,zff,h2]
 by_cases h3:within c.n=true
 ·by_cases h4:c.k=1
  ·simp[P52,S52,zff,h3,h4]
  ·have e:br (decide (¬ c.n=0)) (some (Err.no 1)) (some Err.nil)=some (if ¬ c.n=0 then Err.no 1 else Err.nil):=by rw[zl];split<;>rfl
   simp[P52,S52,zff,h1,h2,h3,h4];by_cases h5:c.n=0
   ·simp[h5]
   ·simp[h5]
 ·simp[P52,S52,zff,h1,h2,h3]
@[simp] theorem P62_eq (n:Int):P62 n=some (maxT n (wi (-n))):=by simp[P62,S62]
theorem size_eq {n:Int} (h:within n=true):maxT n (wi (-n))=if n < 0 then -n else n:=by
 simp only[within,and_eq_true,decide_eq_true_eq] at h;rw[qL (by omega) (by omega)];unfold maxT
 split<;>split<;>omega
theorem P34_eq {a:Cell} (b:Cell) (ha:within a.n=true):P34 a b=some (zbP a b):=by
 by_cases h:a.n=0
 ·simp[P34,S34,zbP,br_eq,h]
  repeat' split
  all_goals first | rfl | (simp_all;done)
 ·have h':¬ maxT a.n (wi (-a.n))=0:=by rw[size_eq ha];split<;>omega
  simp[P34,S34,zbP,br_eq,h,h']
  repeat' split
  all_goals first | rfl | (simp_all;done)
@[simp] theorem P35_eq (a b:Cell):P35 a b=some (cover a b):=by
 by_cases h:b.n=0
 ·simp[P35,S35,cover,br_eq,h]
  repeat' split
  all_goals first | rfl | (simp_all;done)
 ·simp[P35,S35,cover,br_eq,h]
  repeat' split
  all_goals first | rfl | (simp_all;done)
def zgL (a b c:Cell):Cell×Err:=if zff a∨zff b then (⟨0,0⟩,.no 1) else (c,.nil)
@[simp] theorem P9_eq (a b:Cell):P9 a b=some (zgL a b (wG a b 1)):=by by_cases h1:zff a<;>by_cases h2:zff b<;>simp[P9,S9,P31_32,S31_32,P32,S32,zgL,h1,h2]
@[simp] theorem P12_eq (a b:Cell):P12 a b=some (zgL a b (wG a b (-1))):=by by_cases h1:zff a<;>by_cases h2:zff b<;>simp[P12,S12,P31_36,S31_36,P36,S36,zgL,h1,h2]
@[simp] theorem P10_eq (a b:Cell):P10 a b=some (zgL a b (zbP a b)):=by by_cases h1:zff a<;>by_cases h2:zff b<;>simp[P10,S10,P31_34,S31_34,zgL,h1,h2];rw[P34_eq b (by simp only[zff,not_or] at h1;simpa using h1.2.2.1)];rfl
@[simp] theorem P11_eq (a b:Cell):P11 a b=some (zgL a b (cover a b)):=by by_cases h1:zff a<;>by_cases h2:zff b<;>simp[P11,S11,P31_35,S31_35,zgL,h1,h2]
end
section
theorem zfH (n:Int):P150 n=some (yM n):=by
 simp only[P150,S150];unfold yM within;by_cases h1:n < -1000000000000
 ·simp[h1]<;>omega
 by_cases h2:1000000000000 < n
 ·simp[h1,h2]<;>omega
 ·rw[if_pos (by simp;omega)];simp[h1,h2]
theorem zia (a b:Cell) (s:Int):P146 a b s=some (wG a b s):=by
 simp only[P146,S146,zfH,zi,wG];by_cases h1:a.k=2
 ·simp[h1]
 by_cases h2:b.k=2
 ·simp[h1,h2]
 by_cases h3:a.k=0<;>by_cases h4:b.k=0<;>simp[h1,h2,h3,h4]
end
section
theorem zfG {n:Int} (h:within n=true):P160 n=some (if n < 0 then -n else n):=by
 simp only[within,and_eq_true,decide_eq_true_eq] at h;simp only[P160,S160];rw[zl];split
 ·rw[qL (by omega) (by omega)];congr 1;omega
 ·rfl
theorem P147_eq {a b:Cell} (ha:within a.n=true) (hb:within b.n=true):P147 a b=some (zbP a b):=by
 simp only[P147,S147,zfH,zfG ha,zfG hb,zi,zbP,size_eq ha,size_eq hb];by_cases h1:a.k=2
 ·simp[h1]
 by_cases h2:b.k=2
 ·simp[h1,h2]
 by_cases h3:a.k=0
 ·simp[h1,h2,h3]
 by_cases h4:b.k=0
 ·simp[h1,h2,h3,h4]
 simp only[h1,h2,h3,h4,decide_false,or_self,if_false,zd,zx,qp];by_cases h5:a.n=0
 ·simp[h5]
 ·have h6:(0:Int) < (if a.n < 0 then -a.n else a.n):=by split<;>omega
  rw[zl,if_pos h6,zp (by omega)];simp only[zx,qp,h5,not_false_eq_true,true_and];rw[zl];exact (apply_ite some _ _ _).symm
theorem zjl {a b:Int} (ha:within a=true) (hb:within b=true) (h0:b≠0) :
  (if (decide (a < 0))=(decide (b < 0)) then wi (Int.tdiv (if a < 0 then -a else a) (if b < 0 then -b else b)) else wi (0 - wi (Int.tdiv (if a < 0 then -a else a) (if b < 0 then -b else b))))=wi (Int.tdiv a b):=by
 simp only[within,and_eq_true,decide_eq_true_eq] at ha hb;have bd:∀ x y:Int,0<=x->x<=1000000000000->0 < y->0<=Int.tdiv x y∧Int.tdiv x y<=1000000000000:=(by intro x y h1 h2 h3;rw[Int.tdiv_eq_ediv_of_nonneg h1];exact ⟨Int.ediv_nonneg h1 (by omega),Int.le_trans (Int.ediv_le_self _ h1) h2⟩);by_cases h1:a < 0<;>by_cases h2:b < 0
 ·simp only[h1,h2,if_true];rw[Int.neg_tdiv_neg]
 ·have k:=bd (-a) b (by omega) (by omega) (by omega);simp only[h1,h2,if_true,if_false,decide_true,decide_false,Bool.true_eq_false];rw[Int.neg_tdiv] at k ⊢;rw[qL (n := -(Int.tdiv a b)) (by omega) (by omega)];congr 1;omega
 ·have k:=bd a (-b) (by omega) (by omega) (by omega);simp only[h1,h2,if_true,if_false,decide_true,decide_false,Bool.false_eq_true];rw[Int.tdiv_neg] at k ⊢;rw[qL (n := -(Int.tdiv a b)) (by omega) (by omega)];congr 1;omega
 ·simp only[h1,h2,if_false,if_true]
theorem P148_eq {a b:Cell} (ha:within a.n=true) (hb:within b.n=true):P148 a b=some (cover a b):=by
 simp only[P148,S148,zfH,zfG ha,zfG hb,zi,cover];by_cases h1:a.k=2
 ·simp[h1]
 by_cases h2:b.k=2
 ·simp[h1,h2]
 by_cases h3:a.k=0
 ·simp[h1,h2,h3]
 by_cases h4:b.k=0
 ·simp[h1,h2,h3,h4]
 simp only[h1,h2,h3,h4,decide_false,or_self,if_false,zd,zx,qp];by_cases h5:b.n=0
 ·simp[h5]
 ·rw[zl,if_neg h5,if_neg h5,zp (by split<;>omega),← zjl ha hb h5];by_cases h6:(decide (a.n < 0))=(decide (b.n < 0))
  ·rw[if_pos h6,zl,if_neg (by simpa using h6)];rfl
  ·rw[if_neg h6,zl,if_pos h6];rfl
end
end Ab
