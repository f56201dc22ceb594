import Derived.Test.YtchidgkpkhloeaaGreatDoorHF
open Int (lt_irrefl)
set_option linter.all false
namespace Ab
open Go
section
def zfC {x y:Int}:x<=y↔x < y∨x=y:=by omega
def zdh:∀ {as bs:List Int},as.Pairwise (· < ·)->bs.Pairwise (· < ·)->(∀ x,x∈as↔x∈bs)->as=bs
 | [],[],_,_,_=>rfl
 | [],b :: bs,_,_,h=>absurd ((h b).2 (by simp)) (by simp)
 | a :: as,[],_,_,h=>absurd ((h a).1 (by simp)) (by simp)
 | a :: as,b :: bs,ha,hb,h=>by
  obtain ⟨nW,fy⟩:=BP.1 ha;obtain ⟨eJ,cA⟩:=BP.1 hb;have e:a=b:=by
   rcases Au.1 ((h a).1 (by simp)) with e | hm
   ·exact e
   ·rcases Au.1 ((h b).2 (by simp)) with e | fi
    ·exact e.symm
    ·exact absurd (Int.lt_trans (eJ a hm) (nW b fi)) (lt_irrefl b)
  subst e;congr 1;refine zdh fy cA fun x => ?_;have hx:=h x;simp only[Au] at hx;refine ⟨fun hm => ?_,fun hm => ?_⟩
  ·rcases hx.1 (.inr hm) with rfl | fi
   ·exact absurd (nW x hm) (lt_irrefl x)
   ·exact fi
  ·rcases hx.2 (.inr hm) with rfl | fi
   ·exact absurd (eJ x hm) (lt_irrefl x)
   ·exact fi
def zhH (zs:List Int) (hz:zs.Pairwise (·<=·)):∀ m,m<=zs.length->(Lib.compactUpTo zs.toArray m).Pairwise (· < ·)∧(∀ x,x∈Lib.compactUpTo zs.toArray m↔x∈zs.take m)∧∀ k y,m=k+1->zs[k]? = some y->∀ x∈Lib.compactUpTo zs.toArray m,x<=y:=by
 intro m
 induction m with
 | zero=>intro _;exact ⟨by simp[Lib.compactUpTo],by simp[Lib.compactUpTo],fun k y e=>by omega⟩
 | succ m ih =>
  intro hm;obtain ⟨i1,i2,i3⟩:=ih (by omega);have hg:zs[m]? = some zs[m]:=Aa (by omega);have e1:zs.toArray[m]! = zs[m]:=by simp[getElem!_pos,show m < zs.length by omega]
  have ht:zs.take (m+1)=zs.take m++[zs[m]]:=by rw[BT,hg];rfl
  rw[Lib.compactUpTo_succ,e1];by_cases hk:Lib.keeps zs.toArray m=true
  ·rw[if_pos hk];have ae:∀ x∈Lib.compactUpTo zs.toArray m,x < zs[m]:=by
    intro x hx;cases m with
    | zero=>simp[Lib.compactUpTo] at hx
    | succ k =>
     have h1:=i3 k zs[k] rfl (Aa (by omega)) x hx;have h2:zs[k]<=zs[k+1]:=(CF.1 hz) k (k+1) (by omega) (by omega) (by omega);have e2:zs.toArray[k]! = zs[k]:=by simp[getElem!_pos,show k < zs.length by omega]
     have h3:zs[k+1]≠zs[k]:=by
      unfold Lib.keeps at hk;have:=of_decide_eq_true hk;rcases this with h | h
      ·omega
      ·rw[Cm,e2,e1] at h;exact h
     rcases zfC.1 h2 with h2 | h2
     ·rcases zfC.1 h1 with h1 | rfl
      ·exact Int.lt_trans h1 h2
      ·exact h2
     ·exact absurd h2.symm h3
   refine ⟨BJ.2 ⟨i1,by simp,fun x hx y hy => ?_⟩,fun x => ?_,fun k y e hy x hx => ?_⟩
   ·obtain rfl:=Ak.1 hy;exact ae x hx
   ·rw[ht,Al,Al,i2]
   ·obtain rfl:k=m:=by omega
    rw[hg] at hy;cases hy;rcases Al.1 hx with hx | hx
    ·exact zfC.2 (.inl (ae x hx))
    ·obtain rfl:=Ak.1 hx;exact Ca _
  ·rw[if_neg hk,BV];cases m with
   | zero=>exact absurd (Lib.keeps_lt_one _ 0 (by omega)) hk
   | succ k =>
    have e2:zs.toArray[k]! = zs[k]:=by simp[getElem!_pos,show k < zs.length by omega]
    have h3:zs[k+1]=zs[k]:=(by unfold Lib.keeps at hk;have h:=hk;rw[decide_eq_true_eq] at h;have h:=not_or.1 h;have:=Decidable.not_not.1 h.2;rw[Cm,e2,e1] at this;exact this);refine ⟨i1,fun x => ?_,fun k' y e hy x hx => ?_⟩
    ·rw[ht,Al,i2,Ak];refine ⟨.inl,fun h => ?_⟩;rcases h with h | rfl
     ·exact h
     ·rw[h3];exact BM.2 ⟨k,by omega,rfl⟩
    ·obtain rfl:k'=k+1:=by omega
     rw[hg] at hy;cases hy;rw[h3];exact i3 k zs[k] rfl (Aa (by omega)) x hx
def zh5 (l:List Int):(l.mergeSort fun x y=>decide (x<=y)).Pairwise (·<=·):=by have h:=List.pairwise_mergeSort (le:=fun (x y:Int)=>decide (x<=y)) (fun a b c h1 h2=>by simp only[decide_eq_true_eq] at *;exact Int.le_trans h1 h2) (fun a b=>by simp only[B0,decide_eq_true_eq];exact Int.le_total a b) l;exact h.imp fun h=>by simpa using h
def zez (l:List Int):List Int:=zhI (zdj l)
def ww (l:List Int):(zez l).Pairwise (· < ·)∧∀ x,x∈zez l↔x∈l:=by obtain ⟨h1,h2,_⟩:=zhH _ (zh5 l) _ (AO _);unfold zez zhI Lib.compact;refine ⟨h1,fun x => ?_⟩;rw[show (zdj l).length=(l.mergeSort fun x y=>decide (x<=y)).length from rfl];show x∈Lib.compactUpTo (l.mergeSort fun x y=>decide (x<=y)).toArray (l.mergeSort fun x y=>decide (x<=y)).length↔_;rw[h2,AZ];exact (List.mergeSort_perm _ _).mem_iff
def zbP (l:List Int) (n:Int):List Int:=let k:=(l.takeWhile fun a=>decide (a < n)).length;if l[k]? = some n then l else l.take k++[n]++l.drop k
def zjm {α:Type} (p:α->Bool):∀ (l:List α),(∀ x∈l.take (l.takeWhile p).length,p x=true)∧(∀ y,l[(l.takeWhile p).length]? = some y->p y=false)∧(l.takeWhile p).length<=l.length
 | []=>⟨by simp,by simp,by simp⟩
 | a :: r=>by
  obtain ⟨h1,h2,h3⟩:=zjm p r;by_cases e:p a=true
  ·rw[List.takeWhile_cons_of_pos e];refine ⟨fun x hx => ?_,fun y hy => ?_,by simp;exact h3⟩
   ·simp only[AM,Cg,Au] at hx;rcases hx with rfl | hx
    ·exact e
    ·exact h1 x hx
   ·exact h2 y (by simpa using hy)
  ·rw[List.takeWhile_cons_of_neg e];exact ⟨by simp,fun y hy=>by simp at hy;subst hy;simpa using e,by simp⟩
def insI_ok {l:List Int} {n:Int} (h:l.Pairwise (· < ·)):(zbP l n).Pairwise (· < ·)∧∀ x,x∈zbP l n↔x∈l∨x=n:=by
 obtain ⟨w1,w2,w3⟩:=zjm (fun a=>decide (a < n)) l;unfold zbP;generalize (l.takeWhile fun a=>decide (a < n)).length=k at *;simp only;by_cases hk:l[k]? = some n
 ·rw[if_pos hk];refine ⟨h,fun x=>⟨.inl, ?_⟩⟩;rintro (hx | rfl)
  ·exact hx
  ·exact Ae hk
 ·rw[if_neg hk];have bZ:l.take k++l.drop k=l:=CR k l;have ae:∀ x∈l.take k,x < n:=fun x hx=>by simpa using w1 x hx
  have tS:∀ x∈l.drop k,n < x:=by
   intro x hx;obtain ⟨j,hj,rfl⟩:=BG hx;rw[Ce] at hj;rw[C4];have fJ:k < l.length:=by omega
   have h0:=w2 l[k] (Aa fJ);rw[decide_eq_false_iff_not] at h0;have h1:l[k]≠n:=fun e=>hk (by rw[Aa fJ,e]);by_cases e:j=0
   ·subst e;simp only[BF];omega
   ·have:=(CF.1 h) k (k+j) fJ (by omega) (by omega);omega
  constructor
  ·rw[AW,BJ];refine ⟨h.sublist (List.take_sublist _ _), ?_,fun x hx y hy => ?_⟩
   ·rw[List.singleton_append,BP];exact ⟨tS,h.sublist (List.drop_sublist _ _)⟩
   ·have:=ae x hx;rcases Al.1 hy with hy | hy
    ·rw[Ak.1 hy];exact this
    ·have:=tS y hy;omega
  ·intro x;rw[AW,Al,List.singleton_append,Au];constructor
   ·rintro (hx | rfl | hx)
    ·exact .inl (BR hx)
    ·exact .inr rfl
    ·exact .inl (BS hx)
   ·rintro (hx | rfl)
    ·rw[← bZ,Al] at hx;rcases hx with hx | hx
     ·exact .inl hx
     ·exact .inr (.inr hx)
    ·exact .inr (.inl rfl)
def zdF:∀ (l acc:List Int),acc.Pairwise (· < ·)->(l.foldl zbP acc).Pairwise (· < ·)∧∀ x,x∈l.foldl zbP acc↔x∈acc∨x∈l
 | [],acc,h=>⟨h,by simp⟩
 | a :: r,acc,h=>by
  obtain ⟨h1,h2⟩:=insI_ok (n:=a) h;obtain ⟨h3,h4⟩:=zdF r _ h1;refine ⟨h3,fun x => ?_⟩;rw[Bf,h4,h2,Au];constructor
  ·rintro ((h | h) | h)
   ·exact .inl h
   ·exact .inr (.inl h)
   ·exact .inr (.inr h)
  ·rintro (h | h | h)
   ·exact .inl (.inl h)
   ·exact .inl (.inr h)
   ·exact .inr h
def zhq (l:List Int):l.foldl zbP []=zez l:=by obtain ⟨h1,h2⟩:=zdF l [] List.Pairwise.nil;obtain ⟨h3,h4⟩:=ww l;exact zdh h1 h3 fun x=>by rw[h2,h4];simp
end
section
def badAt (d:Dim) (at_:List Int):Bool:=at_.any fun x=>decide (x < 0) || decide ((d.members.length:Int)<=x)
structure Rooted (l:List Member):Prop where
 up:∀ (i:Nat) (m:Member),l[i]? = some m -> -1<=m.parent∧m.parent < i
 sign:∀ (i:Nat) (m:Member),l[i]? = some m -> -1<=m.sign∧m.sign<=1
 form:∀ (i:Nat) (m:Member),l[i]? = some m->0<=m.parent->hasF l m.parent=false
def idxs (p:Nat->Bool) (n:Nat):List Int:=((List.range n).filter p).map fun (k:Nat)=>(k:Int)
def idxs_succ (p:Nat->Bool) (n:Nat):idxs p (n+1)=match p n with | true=>idxs p n++[(n:Int)] | false=>idxs p n:=by unfold idxs;rw[Ci,CD];cases h:p n<;>simp[h]
def zaz (p:Nat->Bool) (n:Nat):(idxs p n).length<=n:=by unfold idxs;rw[Ao];have:=BC p (List.range n);simpa using this
def mem_idxs {p:Nat->Bool} {n:Nat} {x:Int}:x∈idxs p n↔∃ k:Nat,x=k∧k < n∧p k=true:=by unfold idxs;simp only[Am,Bu,AU];exact ⟨fun ⟨k,⟨h1,h2⟩,h3⟩=>⟨k,h3.symm,h1,h2⟩,fun ⟨k,h1,h2,h3⟩=>⟨k,⟨h2,h3⟩,h1.symm⟩⟩
def zhj {α:Type} {B:(List Int×Int)->Option (LR (List Int×Int) α)} (p:Nat->Bool) (n:Nat) (h:∀ (i:Nat) (acc:List Int),i < n->acc.length<=i->B (acc,(i:Int))=some (.nx (match p i with | true=>acc++[(i:Int)] | false=>acc,(i:Int)+1))) (hn:∀ acc,B (acc,(n:Int))=some (.dn (acc,(n:Int)))) :
  lpO B ([],0)=some (.inl (idxs p n,(n:Int))):=by
 have:=(zH (B:=B) (fun i=>(idxs p i,(i:Int))) n fun i hi=>by
  rw[h i _ hi (zaz p i),idxs_succ];rfl).trans (zI (hn _))
 exact this
def zhh (l:List Member) (i:Int) (k:Nat):Bool:=match l[k]? with | some m=>decide (m.parent=i) | none=>false
def partsOf (l:List Member) (i:Int):List Int:=idxs (zhh l i) l.length
def P47_eq {d:Dim} (hl:d.members.length<=1000) (i:Int):P47 d i=some (partsOf d.members i):=by
 simp only[P47,S47,zV];rw[zhj (zhh d.members i) d.members.length (fun k acc hk ha => ?_) (fun acc=>by simp[S47_L1])]
 ·rfl
 ·have e:((k:Nat):Int) < ((d.members.length:Nat):Int):=by omega
  have hr:acc.length+1<=zu:=by unfold zu;omega
  simp only[S47_L1,e,decide_true,zo,za,Aa hk,zi,zhh,AD,zp hr,zq,qQ];rw[qp (by omega) (by omega)];by_cases h:(d.members[k]).parent=i<;>simp[h]
def wU (l:List Member) (k:Nat):Bool:=match l[k]? with | some m=>decide (m.formula=⟨#[]⟩) && decide (partsOf l k=[]) | none=>false
def P44_eq {d:Dim} (hl:d.members.length<=1000) {k:Nat} (hk:k < d.members.length):P44 d k=some (wU d.members k):=by have e:decide (((List.length (partsOf d.members k):Nat):Int)=0)=decide (partsOf d.members k=[]):=(by congr 1;rw[← Bh];exact propext ⟨fun h=>by omega,fun h=>by omega⟩);simp only[P44,S44,za,Aa hk,zi,P47_eq hl,wU,e];by_cases h:(d.members[k]).formula=⟨#[]⟩<;>simp[h]
def sgn (l:List Member) (x:Int):Int:=match l[x.toNat]? with | some m=>m.sign | none=>0
def treeErr (d:Dim) (at_:List Int):Int:=if (zL d).2=0 then (if badAt d at_=true then 1 else 0) else (zL d).2
section
variable {d:Dim}
end
end
section
def P97_eq (s:ByteArray):P97 s=some (if qm s=true then 2 else 0):=by
 by_cases h1:s=⟨#[]⟩
 ·subst h1;simp[P97,S97,qm]
 by_cases h2:8 < s.size
 ·have:(8:Int) < ((s.size:Nat):Int):=by omega
  simp[P97,S97,qm,h1,h2,this]
 have h3:¬ (8:Int) < ((s.size:Nat):Int):=by omega
 have aQ:s.data.toList.length=s.size:=rfl;simp only[P97,S97,h1,h3,decide_false,zd,zq,zX];rw[wK (fun c:UInt8=>decide (c.toNat < 97) || decide (122 < c.toNat)) s.data.toList 2 0 (fun i y hy => ?_) (by rw[aQ];simp[S97_L1])]
 ·simp[qm,h1,h2]
 ·have hi:=(Ac.1 hy).1;have e:((i:Nat):Int) < ((s.size:Nat):Int):=by omega
  simp only[S97_L1,e,decide_true,zo,za,hy,zi];rw[qp (by omega) (by omega)];have e1:((y.toNat:Nat):Int) < 97↔y.toNat < 97:=by omega
  have e2:122 < ((y.toNat:Nat):Int)↔122 < y.toNat:=by omega
  by_cases c1:y.toNat < 97<;>by_cases c2:122 < y.toNat<;>simp[e1,e2,c1,c2]
def P96_eq (d:Dim) (s:ByteArray) (h:d.members.length<=9223372036854775807):P96 d s=some (zU d.members s):=by
 refine yp _ d.members (fun i y hy => ?_) (by simp[S96_L1]);have hi:=(Ac.1 hy).1;have e:(((i:Nat):Int) < ((d.members.length:Nat):Int)):=by omega
 simp only[S96_L1,za,hy,zi,e,decide_true,zo];rw[qp (by omega) (by omega)];cases decide (y.name=s)<;>rfl
def where_lt {l:List Member} {i:Nat} {m:Member} (hi:l[i]? = some m):zU l m.name < i↔((l.take i).any fun x=>decide (x.name=m.name))=true:=by
 obtain ⟨ae,rfl⟩:=Ac.1 hi;unfold zU idxOf;cases hf:l.findIdx? (fun x=>decide (x.name=l[i].name)) with
 | none =>have:=BZ.1 hf _ (Ay ae);simp at this
 | some k =>
  obtain ⟨hk,h1,h2⟩:=Bp.1 hf;simp only[B5];constructor
  ·intro h;have kD:k < i:=by have h':(k:Int) < i:=h;omega
   exact ⟨l[k],by rw[BM];exact ⟨k,by omega,rfl⟩,h1⟩
  ·rintro ⟨x,hx,hn⟩;rw[BM] at hx;obtain ⟨j,hj,rfl⟩:=hx;show (k:Int) < i;have:¬ j < k:=fun hjk=>h2 j hjk hn;omega
def P95_eq (d:Dim):P95 d=some (zL d):=by
 simp only[P95,S95,P97_eq,zi];unfold zL;by_cases h1:qm d.name=true
 ·simp[h1]
 rw[if_neg h1,if_neg h1];simp only[not_true,decide_false,zd,zq,br_inl,zX,zjX];by_cases h2:d.solve < 0∨9 < d.solve
 ·rw[if_pos h2];rcases h2 with h2 | h2
  ·simp[h2]
  ·by_cases fC:d.solve < 0<;>simp[h2,fC]
 rw[if_neg h2];have s9:¬ d.solve < 0:=fun h=>h2 (.inl h);have s8:¬ 9 < d.solve:=fun h=>h2 (.inr h);simp only[s9,s8,if_false,decide_false,zd];by_cases h3:12 < d.members.length
 ·have:(12:Int) < ((d.members.length:Nat):Int):=by omega
  simp[h3,this]
 have gq:¬ (12:Int) < ((d.members.length:Nat):Int):=by omega
 rw[if_neg h3];simp only[gq,decide_false,zd];by_cases h4:d.members=[]
 ·simp[h4]
 have dX:¬ ((d.members.length:Nat):Int)=0:=(by intro h;exact h4 (Bh.1 (by omega)));rw[if_neg h4];simp only[dX,decide_false,zd];have hlen:d.members.length<=9223372036854775807:=by omega
 have:=jj (B:=zj7 P96 P97 d) d.members.length (fun i=>match d.members[i]? with
  | some m=>if jT d.members i m=0 then none else some ((i:Int),jT d.members i m)
  | none=>none) (fun i hi=>by
   have e:((i:Nat):Int) < ((d.members.length:Nat):Int):=by omega
   have hm:=Aa hi;generalize d.members[i]=m at hm;have hw:=where_lt hm;simp only[zj7,e,decide_true,zo,za,hm,zi,P97_eq,P96_eq d _ hlen];rw[qp (by omega) (by omega)];unfold jT;by_cases c1:qm m.name=true
   ·simp[c1]
   simp only[c1,if_false,not_true,decide_false,zd];by_cases c2:((d.members.take i).any fun x=>decide (x.name=m.name))=true
   ·have:=hw.2 c2;simp[this,c2]
   have dP:¬ zU d.members m.name < i:=fun h=>c2 (hw.1 h);simp only[c2,dP,if_false,decide_false,zd];by_cases c3:m.parent < -1∨(i:Int)<=m.parent
   ·rw[if_pos c3];rcases c3 with c3 | c3
    ·simp[c3]
    ·by_cases kl:m.parent < -1<;>simp[c3,kl]
   rw[if_neg c3];have c3a:¬ m.parent < -1:=fun h=>c3 (.inl h);have c3b:¬ (i:Int)<=m.parent:=fun h=>c3 (.inr h);simp only[c3a,c3b,decide_false,zd,zq,zX];have h4:jn (σ:=Bool) (α:=LR Int (Int×Int)) (br (decide ((0:Int)<=(Member.parent m))) (bno (zl d.members (Member.parent m)) fun y5=>some (.inl (decide (¬ (Member.formula y5)=(⟨#[]⟩:ByteArray))))) (some (.inl false)))=fun k=>k (decide (0<=m.parent∧hasF d.members m.parent=true)):=by
    funext k;by_cases h:0<=m.parent
    ·have hb:m.parent < d.members.length:=by omega
     have hh:hasF d.members m.parent=decide (¬ (d.members[m.parent.toNat]'(by omega)).formula=⟨#[]⟩):=(by unfold hasF;rw[Aa (by omega)]);rw[zc6 h hb];simp[h,hh]
    ·simp[h]
   rw[h4];by_cases h5:0<=m.parent∧hasF d.members m.parent=true
   ·rw[if_pos h5];simp[h5]
   rw[if_neg h5];simp only[h5,decide_false,zd];by_cases h6:m.sign < -1∨1 < m.sign
   ·rw[if_pos h6];rcases h6 with h6 | h6
    ·simp[h6]
    ·by_cases sX:m.sign < -1<;>simp[h6,sX]
   rw[if_neg h6];have sU:¬ m.sign < -1:=fun h=>h6 (.inl h);have sT:¬ 1 < m.sign:=fun h=>h6 (.inr h);simp only[sU,sT,decide_false,zd,zq,zX];by_cases h7:100 < m.formula.size
   ·have:(100:Int) < ((m.formula.size:Nat):Int):=by omega
    simp[h7,this]
   ·have:¬ (100:Int) < ((m.formula.size:Nat):Int):=by omega
    simp[h7,this]) (by simp[zj7])
 unfold lp;rw[this];have e2:((List.range d.members.length).findSome? fun i=>match d.members[i]? with
  | some m=>if jT d.members i m=0 then none else some ((i:Int),jT d.members i m)
  | none=>none)=za6 d.members:=rfl
 rw[e2];cases za6 d.members with
 | none=>simp
 | some r=>rfl
def P106_eq (o:List Dim) (h:o.length<=9223372036854775807):P106 o=some (zcS o):=by
 have hs:=zH (B:=zep o) (fun i=>((o.take i).foldl (fun n d=>wi (n * ((d.members.length:Nat):Int))) 1,(i:Int))) o.length (fun i hi=>by
  have e:((i:Nat):Int) < ((o.length:Nat):Int):=by omega
  simp only[zep,e,decide_true,zo,za,Aa hi,zi,qQ];rw[qp (n:=(i:Int)+1) (by omega) (by omega),jq _ _ _ (Aa hi)];rfl)
 simp only[B4,CU,AZ] at hs;have hs:lpO (zep o) (1,0)=some (.inl (zcS o,(o.length:Int))):=hs.trans (zI (by simp[zep,zcS]));simp only[P106,S106,zV,hs,zX]
def P94_eq (o:List Dim):P94 o=some (ja o):=by
 simp only[P94,S94];unfold ja;by_cases h1:4 < o.length
 ·have:(4:Int) < ((o.length:Nat):Int):=by omega
  simp[h1,this]
 have ki:¬ (4:Int) < ((o.length:Nat):Int):=by omega
 rw[if_neg h1];simp only[ki,decide_false,zd];by_cases h2:o=[]
 ·simp[h2]
 have fC:¬ ((o.length:Nat):Int)=0:=fun h=>h2 (Bh.1 (by omega));rw[if_neg h2];simp only[fC,decide_false,zd]
 -- the names ahead
 have names:∀ (i:Nat) (d:Dim),o[i]? = some d->∀ (j:Nat),j<=i->∃ k:Int,lpO (zd8 o (i:Int)) (if jN (o.take j) d=true then 7 else 0,(j:Int))=some (.inl (if jN (o.take i) d=true then 7 else 0,k)):=by
  intro i d hi j hj;have ae:=(Ac.1 hi).1
  induction h:i - j generalizing j with
  | zero =>
   obtain rfl:j=i:=by omega
   refine ⟨(j:Int), ?_⟩;rw[zI (y:=(if jN (o.take j) d=true then 7 else 0,(j:Int)))]
   simp[zd8]
  | succ n ih =>
   have cH:j < o.length:=by omega
   have a8:=Aa cH;have iP:((j:Nat):Int) < ((i:Nat):Int):=by omega
   have rI:jN (o.take (j+1)) d=(jN (o.take j) d || decide (o[j].name=d.name)):=(by unfold jN;rw[Cn cH,List.any_append];simp);by_cases hb:jN (o.take j) d=true
   ·refine ⟨(j:Int), ?_⟩;have hbi:jN (o.take i) d=true:=(by unfold jN at hb ⊢;rw[B5] at hb ⊢;obtain ⟨x,hx,hn⟩:=hb;refine ⟨x, ?_,hn⟩;rw[BM] at hx ⊢;obtain ⟨q,hq,rfl⟩:=hx;exact ⟨q,by omega,rfl⟩);rw[if_pos hb,if_pos hbi,zI (y:=(7,(j:Int)))];simp[zd8]
   ·rw[if_neg hb];obtain ⟨k,hk⟩:=ih (j+1) (by omega) (by omega);refine ⟨k, ?_⟩;rw[wg (y:=(if jN (o.take (j+1)) d=true then 7 else 0,((j+1:Nat):Int)))]
    ·exact hk
    ·simp only[zd8,iP,decide_true,zo,zq,zX,za,a8,hi,zi,rI];rw[qp (by omega) (by omega)];have az:jN (o.take j) d=false:=by simpa using hb
     by_cases hn:o[j].name=d.name<;>simp[hn,az]
 have:=jj (B:=zj8 P95 o) o.length (fun i=>match o[i]? with
  | some d=>if (zL d).2=0 then (if jN (o.take i) d=true then some ((i:Int),(zL d).1,7) else none) else some ((i:Int),(zL d).1,(zL d).2)
  | none=>none) (fun i hi=>by
   have e:((i:Nat):Int) < ((o.length:Nat):Int):=by omega
   have hd:=Aa hi;simp only[zj8,e,decide_true,zo,za,hd,zi,P95_eq,zV];rw[qp (by omega) (by omega)];by_cases h:(zL o[i]).2=0
   ·obtain ⟨k,hk⟩:=names i _ hd 0 (BB _);have e0:jN (o.take 0) o[i]=false:=rfl;rw[e0] at hk;simp only[As,if_false] at hk;have aJ:lpO (zd8 o (i:Int)) (0,0)=some (.inl (if jN (o.take i) o[i]=true then 7 else 0,k)):=hk
    simp only[h,aJ,zX];cases hb:jN (o.take i) o[i]<;>simp
   ·rw[zI (y:=((zL o[i]).2,0)) (by
     have hb:decide ((zL o[i]).2=0)=false:=by simpa using h
     simp only[zd8,hb,zq,br_inl,zX];cases decide ((0:Int) < (i:Int))<;>simp)]
    simp[h]) (by simp[zj8])
 unfold lp;rw[this];have e2:((List.range o.length).findSome? fun i=>match o[i]? with
  | some d=>if (zL d).2=0 then (if jN (o.take i) d=true then some ((i:Int),(zL d).1,7) else none) else some ((i:Int),(zL d).1,(zL d).2)
  | none=>none)=zba o:=rfl
 rw[e2];cases zba o with
 | none =>simp only[zX,P106_eq o (by omega),zi];by_cases h3:3000 < zcS o<;>simp[h3]
 | some r=>rfl
end
section
def within (n:Int):Bool:=decide (-1000000000000<=n) && decide (n<=1000000000000)
def zaX (n:Int):Cell:=if within n then ⟨1,n⟩ else ⟨2,0⟩
def zaQ (a b:Cell) (s:Int):Cell:=if a.k=2∨b.k=2 then ⟨2,0⟩ else if a.k=0∧b.k=0 then ⟨0,0⟩ else zaX (wi (a.n+wi (s * b.n)))
def zf2 (c:Cell):Prop:=c.k < 0∨2 < c.k∨within c.n=false∨(¬ c.k=1∧¬ c.n=0)
instance (c : Cell) : Decidable (zf2 c) := by unfold zf2; infer_instance
def zcO (a b:Cell):Cell:=if a.k=2∨b.k=2 then ⟨2,0⟩ else if a.k=0∨b.k=0 then ⟨0,0⟩ else if ¬ a.n=0∧wi (Int.tdiv 1000000000000 (maxT a.n (wi (-a.n)))) < maxT b.n (wi (-b.n)) then ⟨2,0⟩ else zaX (wi (a.n * b.n))
def cover (a b:Cell):Cell:=if a.k=2∨b.k=2 then ⟨2,0⟩ else if a.k=0∨b.k=0 then ⟨0,0⟩ else if b.n=0 then ⟨2,0⟩ else zaX (wi (Int.tdiv a.n b.n))
@[simp] def P30_eq (n:Int):P30 n=some (within n):=by simp[P30,S30,within]
@[simp] def P8_eq (n:Int):P8 n=some (zaX n):=by simp[P8,S8,zaX];cases within n<;>rfl
@[simp] def P33_eq (a b:Cell) (s:Int):P33 a b s=some (zaQ a b s):=by
 simp[P33,S33,zaQ,br_eq]
 repeat' split
 all_goals first | rfl | (simp_all;done)
@[simp] def P52_eq (c:Cell):P52 c=some (if zf2 c then .no 1 else .nil):=by
 by_cases h1:c.k < 0
 ·simp[P52,S52,zf2,h1]
 by_cases h2:2 < c.k
 ·simp[P52,S52,zf2,h2]
 by_cases h3:within c.n=true
 ·by_cases h4:c.k=1
  ·simp[P52,S52,zf2,h3,h4]
  ·have e:br (decide (¬ c.n=0)) (some (Err.no 1)) (some Err.nil)=some (if ¬ c.n=0 then Err.no 1 else Err.nil):=by rw[zh];split<;>rfl
   simp[P52,S52,zf2,h1,h2,h3,h4];by_cases h5:c.n=0
   ·simp[h5]
   ·simp[h5]
 ·simp[P52,S52,zf2,h1,h2,h3]
@[simp] def P62_eq (n:Int):P62 n=some (maxT n (wi (-n))):=by simp[P62,S62]
def size_eq {n:Int} (h:within n=true):maxT n (wi (-n))=if n < 0 then -n else n:=by
 simp only[within,Ar,decide_eq_true_eq] at h;rw[qp (by omega) (by omega)];unfold maxT
 split<;>split<;>omega
def P34_eq {a:Cell} (b:Cell) (ha:within a.n=true):P34 a b=some (zcO a b):=by
 by_cases h:a.n=0
 ·simp[P34,S34,zcO,br_eq,h]
  repeat' split
  all_goals first | rfl | (simp_all;done)
 ·have h':¬ maxT a.n (wi (-a.n))=0:=by rw[size_eq ha];split<;>omega
  simp[P34,S34,zcO,br_eq,h,h']
  repeat' split
  all_goals first | rfl | (simp_all;done)
@[simp] def P35_eq (a b:Cell):P35 a b=some (cover a b):=by
 by_cases h:b.n=0
 ·simp[P35,S35,cover,br_eq,h]
  repeat' split
  all_goals first | rfl | (simp_all;done)
 ·simp[P35,S35,cover,br_eq,h]
  repeat' split
  all_goals first | rfl | (simp_all;done)
def zhL (a b c:Cell):Cell×Err:=if zf2 a∨zf2 b then (⟨0,0⟩,.no 1) else (c,.nil)
@[simp] def P9_eq (a b:Cell):P9 a b=some (zhL a b (zaQ a b 1)):=by by_cases h1:zf2 a<;>by_cases h2:zf2 b<;>simp[P9,S9,P31_32,S31_32,P32,S32,zhL,h1,h2]
@[simp] def P12_eq (a b:Cell):P12 a b=some (zhL a b (zaQ a b (-1))):=by by_cases h1:zf2 a<;>by_cases h2:zf2 b<;>simp[P12,S12,P31_36,S31_36,P36,S36,zhL,h1,h2]
@[simp] def P10_eq (a b:Cell):P10 a b=some (zhL a b (zcO a b)):=by by_cases h1:zf2 a<;>by_cases h2:zf2 b<;>simp[P10,S10,P31_34,S31_34,zhL,h1,h2];rw[P34_eq b (by simp only[zf2,not_or] at h1;simpa using h1.2.2.1)];rfl
@[simp] def P11_eq (a b:Cell):P11 a b=some (zhL a b (cover a b)):=by by_cases h1:zf2 a<;>by_cases h2:zf2 b<;>simp[P11,S11,P31_35,S31_35,zhL,h1,h2]
end
section
def zgK (n:Int):P150 n=some (zaX n):=by
 simp only[P150,S150];unfold zaX within;by_cases h1:n < -1000000000000
 ·simp[h1]<;>omega
 by_cases h2:1000000000000 < n
 ·simp[h1,h2]<;>omega
 ·rw[if_pos (by simp;omega)];simp[h1,h2]
def oF (a b:Cell) (s:Int):P146 a b s=some (zaQ a b s):=by
 simp only[P146,S146,zgK,zi,zaQ];by_cases h1:a.k=2
 ·simp[h1]
 by_cases h2:b.k=2
 ·simp[h1,h2]
 by_cases h3:a.k=0<;>by_cases h4:b.k=0<;>simp[h1,h2,h3,h4]
end
section
def zgI {n:Int} (h:within n=true):P160 n=some (if n < 0 then -n else n):=by
 simp only[within,Ar,decide_eq_true_eq] at h;simp only[P160,S160];rw[zh];split
 ·rw[qp (by omega) (by omega)];congr 1;omega
 ·rfl
def P147_eq {a b:Cell} (ha:within a.n=true) (hb:within b.n=true):P147 a b=some (zcO a b):=by
 simp only[P147,S147,zgK,zgI ha,zgI hb,zi,zcO,size_eq ha,size_eq hb];by_cases h1:a.k=2
 ·simp[h1]
 by_cases h2:b.k=2
 ·simp[h1,h2]
 by_cases h3:a.k=0
 ·simp[h1,h2,h3]
 by_cases h4:b.k=0
 ·simp[h1,h2,h3,h4]
 simp only[h1,h2,h3,h4,decide_false,or_self,if_false,zd,zq,zX];by_cases h5:a.n=0
 ·simp[h5]
 ·have h6:(0:Int) < (if a.n < 0 then -a.n else a.n):=by split<;>omega
  rw[zh,if_pos h6,zp (by omega)];simp only[zq,zX,h5,not_false_eq_true,true_and];rw[zh];exact (apply_ite some _ _ _).symm
def zkq {a b:Int} (ha:within a=true) (hb:within b=true) (h0:b≠0) :
  (if (decide (a < 0))=(decide (b < 0)) then wi (Int.tdiv (if a < 0 then -a else a) (if b < 0 then -b else b)) else wi (0 - wi (Int.tdiv (if a < 0 then -a else a) (if b < 0 then -b else b))))=wi (Int.tdiv a b):=by
 simp only[within,Ar,decide_eq_true_eq] at ha hb;have bd:∀ x y:Int,0<=x->x<=1000000000000->0 < y->0<=Int.tdiv x y∧Int.tdiv x y<=1000000000000:=(by intro x y h1 h2 h3;rw[Int.tdiv_eq_ediv_of_nonneg h1];exact ⟨Int.ediv_nonneg h1 (by omega),Int.le_trans (Int.ediv_le_self _ h1) h2⟩);by_cases h1:a < 0<;>by_cases h2:b < 0
 ·simp only[h1,h2,if_true];rw[Int.neg_tdiv_neg]
 ·have k:=bd (-a) b (by omega) (by omega) (by omega);simp only[h1,h2,if_true,if_false,decide_true,decide_false,Bool.true_eq_false];rw[Int.neg_tdiv] at k ⊢;rw[qp (n := -(Int.tdiv a b)) (by omega) (by omega)];congr 1;omega
 ·have k:=bd a (-b) (by omega) (by omega) (by omega);simp only[h1,h2,if_true,if_false,decide_true,decide_false,As];rw[Int.tdiv_neg] at k ⊢;rw[qp (n := -(Int.tdiv a b)) (by omega) (by omega)];congr 1;omega
 ·simp only[h1,h2,if_false,if_true]
def P148_eq {a b:Cell} (ha:within a.n=true) (hb:within b.n=true):P148 a b=some (cover a b):=by
 simp only[P148,S148,zgK,zgI ha,zgI hb,zi,cover];by_cases h1:a.k=2
 ·simp[h1]
 by_cases h2:b.k=2
 ·simp[h1,h2]
 by_cases h3:a.k=0
 ·simp[h1,h2,h3]
 by_cases h4:b.k=0
 ·simp[h1,h2,h3,h4]
 simp only[h1,h2,h3,h4,decide_false,or_self,if_false,zd,zq,zX];by_cases h5:b.n=0
 ·simp[h5]
 ·rw[zh,if_neg h5,if_neg h5,zp (by split<;>omega),← zkq ha hb h5];by_cases h6:(decide (a.n < 0))=(decide (b.n < 0))
  ·rw[if_pos h6,zh,if_neg (by simpa using h6)];rfl
  ·rw[if_neg h6,zh,if_pos h6];rfl
end
end Ab
