import Derived.Test.YtchidgkpkhloeaaGreatDoorHF
open List (getElem?_eq_getElem mem_append mem_cons mem_singleton)
open Int (lt_irrefl)
set_option linter.unusedVariables false
set_option linter.unusedSimpArgs false
namespace Ab
open Go
section
theorem zeZ {x y:Int}:x<=y↔x < y∨x=y:=by omega
theorem zaF:∀ {as bs:List Int},as.Pairwise (· < ·)->bs.Pairwise (· < ·)->(∀ x,x∈as↔x∈bs)->as=bs
 | [],[],_,_,_=>rfl
 | [],b :: bs,_,_,h=>absurd ((h b).2 (by simp)) (by simp)
 | a :: as,[],_,_,h=>absurd ((h a).1 (by simp)) (by simp)
 | a :: as,b :: bs,ha,hb,h=>by
  obtain ⟨ha1,ha2⟩:=List.pairwise_cons.1 ha;obtain ⟨hb1,hb2⟩:=List.pairwise_cons.1 hb;have e:a=b:=by
   rcases mem_cons.1 ((h a).1 (by simp)) with e | hm
   ·exact e
   ·rcases mem_cons.1 ((h b).2 (by simp)) with e | hm2
    ·exact e.symm
    ·exact absurd (Int.lt_trans (hb1 a hm) (ha1 b hm2)) (lt_irrefl b)
  subst e;congr 1;refine zaF ha2 hb2 fun x => ?_;have hx:=h x;simp only[mem_cons] at hx;refine ⟨fun hm => ?_,fun hm => ?_⟩
  ·rcases hx.1 (.inr hm) with rfl | hm2
   ·exact absurd (ha1 x hm) (lt_irrefl x)
   ·exact hm2
  ·rcases hx.2 (.inr hm) with rfl | hm2
   ·exact absurd (hb1 x hm) (lt_irrefl x)
   ·exact hm2
theorem zgO (zs:List Int) (hz:zs.Pairwise (·<=·)):∀ m,m<=zs.length->(Lib.compactUpTo zs.toArray m).Pairwise (· < ·)∧(∀ x,x∈Lib.compactUpTo zs.toArray m↔x∈zs.take m)∧∀ k y,m=k+1->zs[k]? = some y->∀ x∈Lib.compactUpTo zs.toArray m,x<=y:=by
 intro m
 induction m with
 | zero=>intro _;exact ⟨by simp[Lib.compactUpTo],by simp[Lib.compactUpTo],fun k y e=>by omega⟩
 | succ m ih =>
  intro hm;obtain ⟨i1,i2,i3⟩:=ih (by omega);have hg:zs[m]? = some zs[m]:=getElem?_eq_getElem (by omega);have e1:zs.toArray[m]! = zs[m]:=by simp[getElem!_pos,show m < zs.length by omega]
  have ht:zs.take (m+1)=zs.take m++[zs[m]]:=by rw[List.take_add_one,hg];rfl
  rw[Lib.compactUpTo_succ,e1];by_cases hk:Lib.keeps zs.toArray m=true
  ·rw[if_pos hk];have hlt:∀ x∈Lib.compactUpTo zs.toArray m,x < zs[m]:=by
    intro x hx;cases m with
    | zero=>simp[Lib.compactUpTo] at hx
    | succ k =>
     have h1:=i3 k zs[k] rfl (getElem?_eq_getElem (by omega)) x hx;have h2:zs[k]<=zs[k+1]:=(List.pairwise_iff_getElem.1 hz) k (k+1) (by omega) (by omega) (by omega);have e2:zs.toArray[k]! = zs[k]:=by simp[getElem!_pos,show k < zs.length by omega]
     have h3:zs[k+1]≠zs[k]:=by
      unfold Lib.keeps at hk;have:=of_decide_eq_true hk;rcases this with h | h
      ·omega
      ·rw[Nat.add_sub_cancel,e2,e1] at h;exact h
     rcases zeZ.1 h2 with h2 | h2
     ·rcases zeZ.1 h1 with h1 | rfl
      ·exact Int.lt_trans h1 h2
      ·exact h2
     ·exact absurd h2.symm h3
   refine ⟨List.pairwise_append.2 ⟨i1,by simp,fun x hx y hy => ?_⟩,fun x => ?_,fun k y e hy x hx => ?_⟩
   ·obtain rfl:=mem_singleton.1 hy;exact hlt x hx
   ·rw[ht,mem_append,mem_append,i2]
   ·obtain rfl:k=m:=by omega
    rw[hg] at hy;cases hy;rcases mem_append.1 hx with hx | hx
    ·exact zeZ.2 (.inl (hlt x hx))
    ·obtain rfl:=mem_singleton.1 hx;exact Int.le_refl _
  ·rw[if_neg hk,List.append_nil];cases m with
   | zero=>exact absurd (Lib.keeps_lt_one _ 0 (by omega)) hk
   | succ k =>
    have e2:zs.toArray[k]! = zs[k]:=by simp[getElem!_pos,show k < zs.length by omega]
    have h3:zs[k+1]=zs[k]:=(by unfold Lib.keeps at hk;have h:=hk;rw[decide_eq_true_eq] at h;have h:=not_or.1 h;have:=Decidable.not_not.1 h.2;rw[Nat.add_sub_cancel,e2,e1] at this;exact this);refine ⟨i1,fun x => ?_,fun k' y e hy x hx => ?_⟩
    ·rw[ht,mem_append,i2,mem_singleton];refine ⟨.inl,fun h => ?_⟩;rcases h with h | rfl
     ·exact h
     ·rw[h3];exact List.mem_take_iff_getElem.2 ⟨k,by omega,rfl⟩
    ·obtain rfl:k'=k+1:=by omega
     rw[hg] at hy;cases hy;rw[h3];exact i3 k zs[k] rfl (getElem?_eq_getElem (by omega)) x hx
theorem zcQ (l:List Int):(l.mergeSort fun x y=>decide (x<=y)).Pairwise (·<=·):=by have h:=List.pairwise_mergeSort (le:=fun (x y:Int)=>decide (x<=y)) (fun a b c h1 h2=>by simp only[decide_eq_true_eq] at *;exact Int.le_trans h1 h2) (fun a b=>by simp only[Bool.or_eq_true,decide_eq_true_eq];exact Int.le_total a b) l;exact h.imp fun h=>by simpa using h
def zdZ (l:List Int):List Int:=zgP (jA l)
theorem jB (l:List Int):(zdZ l).Pairwise (· < ·)∧∀ x,x∈zdZ l↔x∈l:=by obtain ⟨h1,h2,_⟩:=zgO _ (zcQ l) _ (Nat.le_refl _);unfold zdZ zgP Lib.compact;refine ⟨h1,fun x => ?_⟩;rw[show (jA l).length=(l.mergeSort fun x y=>decide (x<=y)).length from rfl];show x∈Lib.compactUpTo (l.mergeSort fun x y=>decide (x<=y)).toArray (l.mergeSort fun x y=>decide (x<=y)).length↔_;rw[h2,List.take_length];exact (List.mergeSort_perm _ _).mem_iff
def zbv (l:List Int) (n:Int):List Int:=let k:=(l.takeWhile fun a=>decide (a < n)).length;if l[k]? = some n then l else l.take k++[n]++l.drop k
theorem zif {α:Type} (p:α->Bool):∀ (l:List α),(∀ x∈l.take (l.takeWhile p).length,p x=true)∧(∀ y,l[(l.takeWhile p).length]? = some y->p y=false)∧(l.takeWhile p).length<=l.length
 | []=>⟨by simp,by simp,by simp⟩
 | a :: r=>by
  obtain ⟨h1,h2,h3⟩:=zif p r;by_cases e:p a=true
  ·rw[List.takeWhile_cons_of_pos e];refine ⟨fun x hx => ?_,fun y hy => ?_,by simp;exact h3⟩
   ·simp only[List.length_cons,List.take_succ_cons,mem_cons] at hx;rcases hx with rfl | hx
    ·exact e
    ·exact h1 x hx
   ·exact h2 y (by simpa using hy)
  ·rw[List.takeWhile_cons_of_neg e];exact ⟨by simp,fun y hy=>by simp at hy;subst hy;simpa using e,by simp⟩
theorem insI_ok {l:List Int} {n:Int} (h:l.Pairwise (· < ·)):(zbv l n).Pairwise (· < ·)∧∀ x,x∈zbv l n↔x∈l∨x=n:=by
 obtain ⟨w1,w2,w3⟩:=zif (fun a=>decide (a < n)) l;unfold zbv;generalize (l.takeWhile fun a=>decide (a < n)).length=k at *;simp only;by_cases hk:l[k]? = some n
 ·rw[if_pos hk];refine ⟨h,fun x=>⟨.inl, ?_⟩⟩;rintro (hx | rfl)
  ·exact hx
  ·exact List.mem_of_getElem? hk
 ·rw[if_neg hk];have hsplit:l.take k++l.drop k=l:=List.take_append_drop k l;have hlt:∀ x∈l.take k,x < n:=fun x hx=>by simpa using w1 x hx
  have hgt:∀ x∈l.drop k,n < x:=by
   intro x hx;obtain ⟨j,hj,rfl⟩:=List.getElem_of_mem hx;rw[List.length_drop] at hj;rw[List.getElem_drop];have hkl:k < l.length:=by omega
   have h0:=w2 l[k] (getElem?_eq_getElem hkl);rw[decide_eq_false_iff_not] at h0;have h1:l[k]≠n:=fun e=>hk (by rw[getElem?_eq_getElem hkl,e]);by_cases e:j=0
   ·subst e;simp only[Nat.add_zero];omega
   ·have:=(List.pairwise_iff_getElem.1 h) k (k+j) hkl (by omega) (by omega);omega
  constructor
  ·rw[List.append_assoc,List.pairwise_append];refine ⟨h.sublist (List.take_sublist _ _), ?_,fun x hx y hy => ?_⟩
   ·rw[List.singleton_append,List.pairwise_cons];exact ⟨hgt,h.sublist (List.drop_sublist _ _)⟩
   ·have:=hlt x hx;rcases mem_append.1 hy with hy | hy
    ·rw[mem_singleton.1 hy];exact this
    ·have:=hgt y hy;omega
  ·intro x;rw[List.append_assoc,mem_append,List.singleton_append,mem_cons];constructor
   ·rintro (hx | rfl | hx)
    ·exact .inl (List.mem_of_mem_take hx)
    ·exact .inr rfl
    ·exact .inl (List.mem_of_mem_drop hx)
   ·rintro (hx | rfl)
    ·rw[← hsplit,mem_append] at hx;rcases hx with hx | hx
     ·exact .inl hx
     ·exact .inr (.inr hx)
    ·exact .inr (.inl rfl)
theorem zbl:∀ (l acc:List Int),acc.Pairwise (· < ·)->(l.foldl zbv acc).Pairwise (· < ·)∧∀ x,x∈l.foldl zbv acc↔x∈acc∨x∈l
 | [],acc,h=>⟨h,by simp⟩
 | a :: r,acc,h=>by
  obtain ⟨h1,h2⟩:=insI_ok (n:=a) h;obtain ⟨h3,h4⟩:=zbl r _ h1;refine ⟨h3,fun x => ?_⟩;rw[List.foldl_cons,h4,h2,mem_cons];constructor
  ·rintro ((h | h) | h)
   ·exact .inl h
   ·exact .inr (.inl h)
   ·exact .inr (.inr h)
  ·rintro (h | h | h)
   ·exact .inl (.inl h)
   ·exact .inl (.inr h)
   ·exact .inr h
theorem zgB (l:List Int):l.foldl zbv []=zdZ l:=by obtain ⟨h1,h2⟩:=zbl l [] List.Pairwise.nil;obtain ⟨h3,h4⟩:=jB l;exact zaF h1 h3 fun x=>by rw[h2,h4];simp
end
section
def badAt (d:Dim) (at_:List Int):Bool:=at_.any fun x=>decide (x < 0) || decide ((d.members.length:Int)<=x)
structure Rooted (l:List Member):Prop where
 up:∀ (i:Nat) (m:Member),l[i]? = some m -> -1<=m.parent∧m.parent < i
 sign:∀ (i:Nat) (m:Member),l[i]? = some m -> -1<=m.sign∧m.sign<=1
 form:∀ (i:Nat) (m:Member),l[i]? = some m->0<=m.parent->hasF l m.parent=false
def idxs (p:Nat->Bool) (n:Nat):List Int:=((List.range n).filter p).map fun (k:Nat)=>(k:Int)
theorem idxs_succ (p:Nat->Bool) (n:Nat):idxs p (n+1)=match p n with | true=>idxs p n++[(n:Int)] | false=>idxs p n:=by unfold idxs;rw[List.range_succ,List.filter_append];cases h:p n<;>simp[h]
theorem zcF (p:Nat->Bool) (n:Nat):(idxs p n).length<=n:=by unfold idxs;rw[List.length_map];have:=List.length_filter_le p (List.range n);simpa using this
theorem mem_idxs {p:Nat->Bool} {n:Nat} {x:Int}:x∈idxs p n↔∃ k:Nat,x=k∧k < n∧p k=true:=by unfold idxs;simp only[List.mem_map,List.mem_filter,List.mem_range];exact ⟨fun ⟨k,⟨h1,h2⟩,h3⟩=>⟨k,h3.symm,h1,h2⟩,fun ⟨k,h1,h2,h3⟩=>⟨k,⟨h2,h3⟩,h1.symm⟩⟩
theorem zgu {α:Type} {B:(List Int×Int)->Option (LR (List Int×Int) α)} (p:Nat->Bool) (n:Nat) (h:∀ (i:Nat) (acc:List Int),i < n->acc.length<=i->B (acc,(i:Int))=some (.nx (match p i with | true=>acc++[(i:Int)] | false=>acc,(i:Int)+1))) (hn:∀ acc,B (acc,(n:Int))=some (.dn (acc,(n:Int)))) :
  lpO B ([],0)=some (.inl (idxs p n,(n:Int))):=by
 have:=(zR (B:=B) (fun i=>(idxs p i,(i:Int))) n fun i hi=>by
  rw[h i _ hi (zcF p i),idxs_succ];rfl).trans (zS (hn _))
 exact this
def zgr (l:List Member) (i:Int) (k:Nat):Bool:=match l[k]? with | some m=>decide (m.parent=i) | none=>false
def partsOf (l:List Member) (i:Int):List Int:=idxs (zgr l i) l.length
theorem P47_eq {d:Dim} (hl:d.members.length<=1000) (i:Int):P47 d i=some (partsOf d.members i):=by
 simp only[P47,S47,qx];rw[zgu (zgr d.members i) d.members.length (fun k acc hk ha => ?_) (fun acc=>by simp[S47_L1])]
 ·rfl
 ·have e:((k:Nat):Int) < ((d.members.length:Nat):Int):=by omega
  have hr:acc.length+1<=zA:=by unfold zA;omega
  simp only[S47_L1,e,decide_true,zn,zd,getElem?_eq_getElem hk,zl,zgr,List.length_singleton,zp hr,zD,qB];rw[qV (by omega) (by omega)];by_cases h:(d.members[k]).parent=i<;>simp[h]
def wz (l:List Member) (k:Nat):Bool:=match l[k]? with | some m=>decide (m.formula=⟨#[]⟩) && decide (partsOf l k=[]) | none=>false
theorem P44_eq {d:Dim} (hl:d.members.length<=1000) {k:Nat} (hk:k < d.members.length):P44 d k=some (wz d.members k):=by have e:decide (((List.length (partsOf d.members k):Nat):Int)=0)=decide (partsOf d.members k=[]):=(by congr 1;rw[← List.length_eq_zero_iff];exact propext ⟨fun h=>by omega,fun h=>by omega⟩);simp only[P44,S44,zd,getElem?_eq_getElem hk,zl,P47_eq hl,wz,e];by_cases h:(d.members[k]).formula=⟨#[]⟩<;>simp[h]
def sgn (l:List Member) (x:Int):Int:=match l[x.toNat]? with | some m=>m.sign | none=>0
def treeErr (d:Dim) (at_:List Int):Int:=if (zJ d).2=0 then (if badAt d at_=true then 1 else 0) else (zJ d).2
section
variable {d:Dim}
end
end
section
theorem P97_eq (s:ByteArray):P97 s=some (if qd s=true then 2 else 0):=by
 by_cases h1:s=⟨#[]⟩
 ·subst h1;simp[P97,S97,qd]
 by_cases h2:8 < s.size
 ·have:(8:Int) < ((s.size:Nat):Int):=by omega
  simp[P97,S97,qd,h1,h2,this]
 have h3:¬ (8:Int) < ((s.size:Nat):Int):=by omega
 have hsz:s.data.toList.length=s.size:=rfl;simp only[P97,S97,h1,h3,decide_false,zk,zD,qG];rw[wq (fun c:UInt8=>decide (c.toNat < 97) || decide (122 < c.toNat)) s.data.toList 2 0 (fun i y hy => ?_) (by rw[hsz];simp[S97_L1])]
 ·simp[qd,h1,h2]
 ·have hi:=(List.getElem?_eq_some_iff.1 hy).1;have e:((i:Nat):Int) < ((s.size:Nat):Int):=by omega
  simp only[S97_L1,e,decide_true,zn,zd,hy,zl];rw[qV (by omega) (by omega)];have e1:((y.toNat:Nat):Int) < 97↔y.toNat < 97:=by omega
  have e2:122 < ((y.toNat:Nat):Int)↔122 < y.toNat:=by omega
  by_cases c1:y.toNat < 97<;>by_cases c2:122 < y.toNat<;>simp[e1,e2,c1,c2]
theorem P96_eq (d:Dim) (s:ByteArray) (h:d.members.length<=9223372036854775807):P96 d s=some (ql d.members s):=by
 refine yU _ d.members (fun i y hy => ?_) (by simp[S96_L1]);have hi:=(List.getElem?_eq_some_iff.1 hy).1;have e:(((i:Nat):Int) < ((d.members.length:Nat):Int)):=by omega
 simp only[S96_L1,zd,hy,zl,e,decide_true,zn];rw[qV (by omega) (by omega)];cases decide (y.name=s)<;>rfl
theorem where_lt {l:List Member} {i:Nat} {m:Member} (hi:l[i]? = some m):ql l m.name < i↔((l.take i).any fun x=>decide (x.name=m.name))=true:=by
 obtain ⟨hlt,rfl⟩:=List.getElem?_eq_some_iff.1 hi;unfold ql idxOf;cases hf:l.findIdx? (fun x=>decide (x.name=l[i].name)) with
 | none =>have:=List.findIdx?_eq_none_iff.1 hf _ (List.getElem_mem hlt);simp at this
 | some k =>
  obtain ⟨hk,h1,h2⟩:=List.findIdx?_eq_some_iff_getElem.1 hf;simp only[List.any_eq_true];constructor
  ·intro h;have hki:k < i:=by have h':(k:Int) < i:=h;omega
   exact ⟨l[k],by rw[List.mem_take_iff_getElem];exact ⟨k,by omega,rfl⟩,h1⟩
  ·rintro ⟨x,hx,hn⟩;rw[List.mem_take_iff_getElem] at hx;obtain ⟨j,hj,rfl⟩:=hx;show (k:Int) < i;have:¬ j < k:=fun hjk=>h2 j hjk hn;omega
theorem P95_eq (d:Dim):P95 d=some (zJ d):=by
 simp only[P95,S95,P97_eq,zl];unfold zJ;by_cases h1:qd d.name=true
 ·simp[h1]
 rw[if_neg h1,if_neg h1];simp only[not_true,decide_false,zk,zD,br_inl,qG,ziN];by_cases h2:d.solve < 0∨9 < d.solve
 ·rw[if_pos h2];rcases h2 with h2 | h2
  ·simp[h2]
  ·by_cases h2':d.solve < 0<;>simp[h2,h2']
 rw[if_neg h2];have h2a:¬ d.solve < 0:=fun h=>h2 (.inl h);have h2b:¬ 9 < d.solve:=fun h=>h2 (.inr h);simp only[h2a,h2b,if_false,decide_false,zk];by_cases h3:12 < d.members.length
 ·have:(12:Int) < ((d.members.length:Nat):Int):=by omega
  simp[h3,this]
 have h3':¬ (12:Int) < ((d.members.length:Nat):Int):=by omega
 rw[if_neg h3];simp only[h3',decide_false,zk];by_cases h4:d.members=[]
 ·simp[h4]
 have h4':¬ ((d.members.length:Nat):Int)=0:=(by intro h;exact h4 (List.length_eq_zero_iff.1 (by omega)));rw[if_neg h4];simp only[h4',decide_false,zk];have hlen:d.members.length<=9223372036854775807:=by omega
 have:=yN (B:=ziW P96 P97 d) d.members.length (fun i=>match d.members[i]? with
  | some m=>if jN d.members i m=0 then none else some ((i:Int),jN d.members i m)
  | none=>none) (fun i hi=>by
   have e:((i:Nat):Int) < ((d.members.length:Nat):Int):=by omega
   have hm:=getElem?_eq_getElem hi;generalize d.members[i]=m at hm;have hw:=where_lt hm;simp only[ziW,e,decide_true,zn,zd,hm,zl,P97_eq,P96_eq d _ hlen];rw[qV (by omega) (by omega)];unfold jN;by_cases c1:qd m.name=true
   ·simp[c1]
   simp only[c1,if_false,not_true,decide_false,zk];by_cases c2:((d.members.take i).any fun x=>decide (x.name=m.name))=true
   ·have:=hw.2 c2;simp[this,c2]
   have c2':¬ ql d.members m.name < i:=fun h=>c2 (hw.1 h);simp only[c2,c2',if_false,decide_false,zk];by_cases c3:m.parent < -1∨(i:Int)<=m.parent
   ·rw[if_pos c3];rcases c3 with c3 | c3
    ·simp[c3]
    ·by_cases c3':m.parent < -1<;>simp[c3,c3']
   rw[if_neg c3];have c3a:¬ m.parent < -1:=fun h=>c3 (.inl h);have c3b:¬ (i:Int)<=m.parent:=fun h=>c3 (.inr h);simp only[c3a,c3b,decide_false,zk,zD,qG];have h4:jn (σ:=Bool) (α:=LR Int (Int×Int)) (br (decide ((0:Int)<=(Member.parent m))) (bno (zm d.members (Member.parent m)) fun y5=>some (.inl (decide (¬ (Member.formula y5)=(⟨#[]⟩:ByteArray))))) (some (.inl false)))=fun k=>k (decide (0<=m.parent∧hasF d.members m.parent=true)):=by
    funext k;by_cases h:0<=m.parent
    ·have hb:m.parent < d.members.length:=by omega
     have hh:hasF d.members m.parent=decide (¬ (d.members[m.parent.toNat]'(by omega)).formula=⟨#[]⟩):=(by unfold hasF;rw[getElem?_eq_getElem (by omega)]);rw[zcC h hb];simp[h,hh]
    ·simp[h]
   rw[h4];by_cases h5:0<=m.parent∧hasF d.members m.parent=true
   ·rw[if_pos h5];simp[h5]
   rw[if_neg h5];simp only[h5,decide_false,zk];by_cases h6:m.sign < -1∨1 < m.sign
   ·rw[if_pos h6];rcases h6 with h6 | h6
    ·simp[h6]
    ·by_cases h6':m.sign < -1<;>simp[h6,h6']
   rw[if_neg h6];have h6a:¬ m.sign < -1:=fun h=>h6 (.inl h);have h6b:¬ 1 < m.sign:=fun h=>h6 (.inr h);simp only[h6a,h6b,decide_false,zk,zD,qG];by_cases h7:100 < m.formula.size
   ·have:(100:Int) < ((m.formula.size:Nat):Int):=by omega
    simp[h7,this]
   ·have:¬ (100:Int) < ((m.formula.size:Nat):Int):=by omega
    simp[h7,this]) (by simp[ziW])
 unfold lp;rw[this];have e2:((List.range d.members.length).findSome? fun i=>match d.members[i]? with
  | some m=>if jN d.members i m=0 then none else some ((i:Int),jN d.members i m)
  | none=>none)=zaK d.members:=rfl
 rw[e2];cases zaK d.members with
 | none=>simp
 | some r=>rfl
theorem P106_eq (o:List Dim) (h:o.length<=9223372036854775807):P106 o=some (zcn o):=by
 have hs:=zR (B:=zdP o) (fun i=>((o.take i).foldl (fun n d=>wi (n * ((d.members.length:Nat):Int))) 1,(i:Int))) o.length (fun i hi=>by
  have e:((i:Nat):Int) < ((o.length:Nat):Int):=by omega
  simp only[zdP,e,decide_true,zn,zd,getElem?_eq_getElem hi,zl,qB];rw[qV (n:=(i:Int)+1) (by omega) (by omega),yc _ _ _ (getElem?_eq_getElem hi)];rfl)
 simp only[List.take_zero,List.foldl_nil,List.take_length] at hs;have hs:lpO (zdP o) (1,0)=some (.inl (zcn o,(o.length:Int))):=hs.trans (zS (by simp[zdP,zcn]));simp only[P106,S106,qx,hs,qG]
theorem P94_eq (o:List Dim):P94 o=some (yq o):=by
 simp only[P94,S94];unfold yq;by_cases h1:4 < o.length
 ·have:(4:Int) < ((o.length:Nat):Int):=by omega
  simp[h1,this]
 have h1':¬ (4:Int) < ((o.length:Nat):Int):=by omega
 rw[if_neg h1];simp only[h1',decide_false,zk];by_cases h2:o=[]
 ·simp[h2]
 have h2':¬ ((o.length:Nat):Int)=0:=fun h=>h2 (List.length_eq_zero_iff.1 (by omega));rw[if_neg h2];simp only[h2',decide_false,zk]
 -- the names ahead
 have names:∀ (i:Nat) (d:Dim),o[i]? = some d->∀ (j:Nat),j<=i->∃ k:Int,lpO (zdD o (i:Int)) (if jE (o.take j) d=true then 7 else 0,(j:Int))=some (.inl (if jE (o.take i) d=true then 7 else 0,k)):=by
  intro i d hi j hj;have hlt:=(List.getElem?_eq_some_iff.1 hi).1
  induction h:i - j generalizing j with
  | zero =>
   obtain rfl:j=i:=by omega
   refine ⟨(j:Int), ?_⟩;rw[zS (y:=(if jE (o.take j) d=true then 7 else 0,(j:Int)))]
   simp[zdD]
  | succ n ih =>
   have hjl:j < o.length:=by omega
   have hj':=getElem?_eq_getElem hjl;have hlt':((j:Nat):Int) < ((i:Nat):Int):=by omega
   have htk:jE (o.take (j+1)) d=(jE (o.take j) d || decide (o[j].name=d.name)):=(by unfold jE;rw[List.take_succ_eq_append_getElem hjl,List.any_append];simp);by_cases hb:jE (o.take j) d=true
   ·refine ⟨(j:Int), ?_⟩;have hbi:jE (o.take i) d=true:=(by unfold jE at hb ⊢;rw[List.any_eq_true] at hb ⊢;obtain ⟨x,hx,hn⟩:=hb;refine ⟨x, ?_,hn⟩;rw[List.mem_take_iff_getElem] at hx ⊢;obtain ⟨q,hq,rfl⟩:=hx;exact ⟨q,by omega,rfl⟩);rw[if_pos hb,if_pos hbi,zS (y:=(7,(j:Int)))];simp[zdD]
   ·rw[if_neg hb];obtain ⟨k,hk⟩:=ih (j+1) (by omega) (by omega);refine ⟨k, ?_⟩;rw[wu (y:=(if jE (o.take (j+1)) d=true then 7 else 0,((j+1:Nat):Int)))]
    ·exact hk
    ·simp only[zdD,hlt',decide_true,zn,zD,qG,zd,hj',hi,zl,htk];rw[qV (by omega) (by omega)];have hb':jE (o.take j) d=false:=by simpa using hb
     by_cases hn:o[j].name=d.name<;>simp[hn,hb']
 have:=yN (B:=ziX P95 o) o.length (fun i=>match o[i]? with
  | some d=>if (zJ d).2=0 then (if jE (o.take i) d=true then some ((i:Int),(zJ d).1,7) else none) else some ((i:Int),(zJ d).1,(zJ d).2)
  | none=>none) (fun i hi=>by
   have e:((i:Nat):Int) < ((o.length:Nat):Int):=by omega
   have hd:=getElem?_eq_getElem hi;simp only[ziX,e,decide_true,zn,zd,hd,zl,P95_eq,qx];rw[qV (by omega) (by omega)];by_cases h:(zJ o[i]).2=0
   ·obtain ⟨k,hk⟩:=names i _ hd 0 (Nat.zero_le _);have e0:jE (o.take 0) o[i]=false:=rfl;rw[e0] at hk;simp only[Bool.false_eq_true,if_false] at hk;have hk':lpO (zdD o (i:Int)) (0,0)=some (.inl (if jE (o.take i) o[i]=true then 7 else 0,k)):=hk
    simp only[h,hk',qG];cases hb:jE (o.take i) o[i]<;>simp
   ·rw[zS (y:=((zJ o[i]).2,0)) (by
     have hb:decide ((zJ o[i]).2=0)=false:=by simpa using h
     simp only[zdD,hb,zD,br_inl,qG];cases decide ((0:Int) < (i:Int))<;>simp)]
    simp[h]) (by simp[ziX])
 unfold lp;rw[this];have e2:((List.range o.length).findSome? fun i=>match o[i]? with
  | some d=>if (zJ d).2=0 then (if jE (o.take i) d=true then some ((i:Int),(zJ d).1,7) else none) else some ((i:Int),(zJ d).1,(zJ d).2)
  | none=>none)=zaQ o:=rfl
 rw[e2];cases zaQ o with
 | none =>simp only[qG,P106_eq o (by omega),zl];by_cases h3:3000 < zcn o<;>simp[h3]
 | some r=>rfl
end
section
def within (n:Int):Bool:=decide (-1000000000000<=n) && decide (n<=1000000000000)
def zez (n:Int):Cell:=if within n then ⟨1,n⟩ else ⟨2,0⟩
def zhH (a b:Cell) (s:Int):Cell:=if a.k=2∨b.k=2 then ⟨2,0⟩ else if a.k=0∧b.k=0 then ⟨0,0⟩ else zez (wi (a.n+wi (s * b.n)))
def zfn (c:Cell):Prop:=c.k < 0∨2 < c.k∨within c.n=false∨(¬ c.k=1∧¬ c.n=0)
instance (c : Cell) : Decidable (zfn c) := by unfold zfn; infer_instance
def zgN (a b:Cell):Cell:=if a.k=2∨b.k=2 then ⟨2,0⟩ else if a.k=0∨b.k=0 then ⟨0,0⟩ else if ¬ a.n=0∧wi (Int.tdiv 1000000000000 (maxT a.n (wi (-a.n)))) < maxT b.n (wi (-b.n)) then ⟨2,0⟩ else zez (wi (a.n * b.n))
def cover (a b:Cell):Cell:=if a.k=2∨b.k=2 then ⟨2,0⟩ else if a.k=0∨b.k=0 then ⟨0,0⟩ else if b.n=0 then ⟨2,0⟩ else zez (wi (Int.tdiv a.n b.n))
@[simp] theorem P30_eq (n:Int):P30 n=some (within n):=by simp[P30,S30,within]
@[simp] theorem P8_eq (n:Int):P8 n=some (zez n):=by simp[P8,S8,zez];cases within n<;>rfl
@[simp] theorem P33_eq (a b:Cell) (s:Int):P33 a b s=some (zhH a b s):=by
 simp[P33,S33,zhH,br_eq]
 repeat' split
 all_goals first | rfl | (simp_all;done)
@[simp] theorem P52_eq (c:Cell):P52 c=some (if zfn c then .no 1 else .nil):=by
 by_cases h1:c.k < 0
 ·simp[P52,S52,zfn,h1]
 by_cases h2:2 < c.k
 ·simp[P52,S52,zfn,h2]
 by_cases h3:within c.n=true
 ·by_cases h4:c.k=1
  ·simp[P52,S52,zfn,h3,h4]
  ·have e:br (decide (¬ c.n=0)) (some (Err.no 1)) (some Err.nil)=some (if ¬ c.n=0 then Err.no 1 else Err.nil):=by rw[zj];split<;>rfl
   simp[P52,S52,zfn,h1,h2,h3,h4];by_cases h5:c.n=0
   ·simp[h5]
   ·simp[h5]
 ·simp[P52,S52,zfn,h1,h2,h3]
@[simp] theorem P62_eq (n:Int):P62 n=some (maxT n (wi (-n))):=by simp[P62,S62]
theorem size_eq {n:Int} (h:within n=true):maxT n (wi (-n))=if n < 0 then -n else n:=by
 simp only[within,Bool.and_eq_true,decide_eq_true_eq] at h;rw[qV (by omega) (by omega)];unfold maxT
 split<;>split<;>omega
theorem P34_eq {a:Cell} (b:Cell) (ha:within a.n=true):P34 a b=some (zgN a b):=by
 by_cases h:a.n=0
 ·simp[P34,S34,zgN,br_eq,h]
  repeat' split
  all_goals first | rfl | (simp_all;done)
 ·have h':¬ maxT a.n (wi (-a.n))=0:=by rw[size_eq ha];split<;>omega
  simp[P34,S34,zgN,br_eq,h,h']
  repeat' split
  all_goals first | rfl | (simp_all;done)
@[simp] theorem P35_eq (a b:Cell):P35 a b=some (cover a b):=by
 by_cases h:b.n=0
 ·simp[P35,S35,cover,br_eq,h]
  repeat' split
  all_goals first | rfl | (simp_all;done)
 ·simp[P35,S35,cover,br_eq,h]
  repeat' split
  all_goals first | rfl | (simp_all;done)
def zgS (a b c:Cell):Cell×Err:=if zfn a∨zfn b then (⟨0,0⟩,.no 1) else (c,.nil)
@[simp] theorem P9_eq (a b:Cell):P9 a b=some (zgS a b (zhH a b 1)):=by by_cases h1:zfn a<;>by_cases h2:zfn b<;>simp[P9,S9,P31_32,S31_32,P32,S32,zgS,h1,h2]
@[simp] theorem P12_eq (a b:Cell):P12 a b=some (zgS a b (zhH a b (-1))):=by by_cases h1:zfn a<;>by_cases h2:zfn b<;>simp[P12,S12,P31_36,S31_36,P36,S36,zgS,h1,h2]
@[simp] theorem P10_eq (a b:Cell):P10 a b=some (zgS a b (zgN a b)):=by by_cases h1:zfn a<;>by_cases h2:zfn b<;>simp[P10,S10,P31_34,S31_34,zgS,h1,h2];rw[P34_eq b (by simp only[zfn,not_or] at h1;simpa using h1.2.2.1)];rfl
@[simp] theorem P11_eq (a b:Cell):P11 a b=some (zgS a b (cover a b)):=by by_cases h1:zfn a<;>by_cases h2:zfn b<;>simp[P11,S11,P31_35,S31_35,zgS,h1,h2]
end
section
end
section
end
end Ab
