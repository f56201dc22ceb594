import Derived.Test.YtchidgkpkhloeaaGreatDoorHF
open List (getElem?_eq_getElem mem_append mem_cons)
open Nat (le_refl)
open Int (lt_irrefl)
set_option linter.unusedVariables false
set_option linter.unusedSimpArgs false
namespace Ab
open Go
section
theorem zeL {x y:Int}:x<=y↔x < y∨x=y:=by omega
theorem zag:∀ {as bs:List Int},as.Pairwise (· < ·)->bs.Pairwise (· < ·)->(∀ x,x∈as↔x∈bs)->as=bs
 | [],[],_,_,_=>rfl
 | [],b :: bs,_,_,h=>absurd ((h b).2 (by simp)) (by simp)
 | a :: as,[],_,_,h=>absurd ((h a).1 (by simp)) (by simp)
 | a :: as,b :: bs,ha,hb,h=>by
  obtain ⟨ha1,ha2⟩:=List.pairwise_cons.1 ha;obtain ⟨hb1,hb2⟩:=List.pairwise_cons.1 hb;have e:a=b:=by
   rcases mem_cons.1 ((h a).1 (by simp)) with e | hm
   ·exact e
   ·rcases mem_cons.1 ((h b).2 (by simp)) with e | hm2
    ·exact e.symm
    ·exact absurd (Int.lt_trans (hb1 a hm) (ha1 b hm2)) (lt_irrefl b)
  subst e;congr 1;refine zag ha2 hb2 fun x => ?_;have hx:=h x;simp only[mem_cons] at hx;refine ⟨fun hm => ?_,fun hm => ?_⟩
  ·rcases hx.1 (.inr hm) with rfl | hm2
   ·exact absurd (ha1 x hm) (lt_irrefl x)
   ·exact hm2
  ·rcases hx.2 (.inr hm) with rfl | hm2
   ·exact absurd (hb1 x hm) (lt_irrefl x)
   ·exact hm2
theorem zgj (zs:List Int) (hz:zs.Pairwise (·<=·)):∀ m,m<=zs.length->(Lib.compactUpTo zs.toArray m).Pairwise (· < ·)∧(∀ x,x∈Lib.compactUpTo zs.toArray m↔x∈zs.take m)∧∀ k y,m=k+1->zs[k]? = some y->∀ x∈Lib.compactUpTo zs.toArray m,x<=y:=by
 intro m
 induction m with
 | zero=>intro _;exact ⟨by simp[Lib.compactUpTo],by simp[Lib.compactUpTo],fun k y e=>by omega⟩
 | succ m ih =>
  intro hm;obtain ⟨i1,i2,i3⟩:=ih (by omega);have hg:zs[m]? = some zs[m]:=getElem?_eq_getElem (by omega);have e1:zs.toArray[m]! = zs[m]:=by simp[getElem!_pos,show m < zs.length by omega]
  have ht:zs.take (m+1)=zs.take m++[zs[m]]:=by rw[List.take_add_one,hg];rfl
  rw[Lib.compactUpTo_succ,e1];by_cases hk:Lib.keeps zs.toArray m=true
  ·rw[if_pos hk];have hlt:∀ x∈Lib.compactUpTo zs.toArray m,x < zs[m]:=by
    intro x hx;cases m with
    | zero=>simp[Lib.compactUpTo] at hx
    | succ k =>
     have h1:=i3 k zs[k] rfl (getElem?_eq_getElem (by omega)) x hx;have h2:zs[k]<=zs[k+1]:=(List.pairwise_iff_getElem.1 hz) k (k+1) (by omega) (by omega) (by omega);have e2:zs.toArray[k]! = zs[k]:=by simp[getElem!_pos,show k < zs.length by omega]
     have h3:zs[k+1]≠zs[k]:=by
      unfold Lib.keeps at hk;have:=of_decide_eq_true hk;rcases this with h | h
      ·omega
      ·rw[Nat.add_sub_cancel,e2,e1] at h;exact h
     rcases zeL.1 h2 with h2 | h2
     ·rcases zeL.1 h1 with h1 | rfl
      ·exact Int.lt_trans h1 h2
      ·exact h2
     ·exact absurd h2.symm h3
   refine ⟨List.pairwise_append.2 ⟨i1,by simp,fun x hx y hy => ?_⟩,fun x => ?_,fun k y e hy x hx => ?_⟩
   ·obtain rfl:=List.mem_singleton.1 hy;exact hlt x hx
   ·rw[ht,mem_append,mem_append,i2]
   ·obtain rfl:k=m:=by omega
    rw[hg] at hy;cases hy;rcases mem_append.1 hx with hx | hx
    ·exact zeL.2 (.inl (hlt x hx))
    ·obtain rfl:=List.mem_singleton.1 hx;exact Int.le_refl _
  ·rw[if_neg hk,List.append_nil];cases m with
   | zero=>exact absurd (Lib.keeps_lt_one _ 0 (by omega)) hk
   | succ k =>
    have e2:zs.toArray[k]! = zs[k]:=by simp[getElem!_pos,show k < zs.length by omega]
    have h3:zs[k+1]=zs[k]:=by
     unfold Lib.keeps at hk;have h:=hk;rw[decide_eq_true_eq] at h;have h:=not_or.1 h;have:=Decidable.not_not.1 h.2;rw[Nat.add_sub_cancel,e2,e1] at this;exact this
    refine ⟨i1,fun x => ?_,fun k' y e hy x hx => ?_⟩
    ·rw[ht,mem_append,i2,List.mem_singleton];refine ⟨.inl,fun h => ?_⟩;rcases h with h | rfl
     ·exact h
     ·rw[h3];exact List.mem_take_iff_getElem.2 ⟨k,by omega,rfl⟩
    ·obtain rfl:k'=k+1:=by omega
     rw[hg] at hy;cases hy;rw[h3];exact i3 k zs[k] rfl (getElem?_eq_getElem (by omega)) x hx
theorem zgH (l:List Int):(l.mergeSort fun x y=>decide (x<=y)).Pairwise (·<=·):=by
 have h:=List.pairwise_mergeSort (le:=fun (x y:Int)=>decide (x<=y)) (fun a b c h1 h2=>by simp only[decide_eq_true_eq] at *;exact Int.le_trans h1 h2) (fun a b=>by simp only[Bool.or_eq_true,decide_eq_true_eq];exact Int.le_total a b) l;exact h.imp fun h=>by simpa using h
def setI (l:List Int):List Int:=zgk (zcf l)
theorem zaZ (l:List Int):(setI l).Pairwise (· < ·)∧∀ x,x∈setI l↔x∈l:=by
 obtain ⟨h1,h2,_⟩:=zgj _ (zgH l) _ (le_refl _);unfold setI zgk Lib.compact;refine ⟨h1,fun x => ?_⟩;rw[show (zcf l).length=(l.mergeSort fun x y=>decide (x<=y)).length from rfl];show x∈Lib.compactUpTo (l.mergeSort fun x y=>decide (x<=y)).toArray (l.mergeSort fun x y=>decide (x<=y)).length↔_;rw[h2,List.take_length];exact (List.mergeSort_perm _ _).mem_iff
end
section
def upP (l:List Member):Nat->Int->List Int
 | 0,_=>[]
 | f+1,i=>if i < 0 then [] else match l[i.toNat]? with | some m=>i :: upP l f m.parent | none=>[]
structure Rooted (l:List Member):Prop where
 up:∀ (i:Nat) (m:Member),l[i]? = some m -> -1<=m.parent∧m.parent < i
 sign:∀ (i:Nat) (m:Member),l[i]? = some m -> -1<=m.sign∧m.sign<=1
 form:∀ (i:Nat) (m:Member),l[i]? = some m->0<=m.parent->hasF l m.parent=false
theorem zcy {l:List Member} {i:Nat} {m:Member} (h:yx l i m=0):zI m.name=false∧((l.take i).any fun x=>decide (x.name=m.name))=false∧(-1<=m.parent∧m.parent < i)∧(0<=m.parent->hasF l m.parent=false)∧(-1<=m.sign∧m.sign<=1)∧m.formula.size<=100:=by
 unfold yx at h;by_cases h1:zI m.name=true
 ·rw[if_pos h1] at h;cases h
 rw[if_neg h1] at h;by_cases h2:((l.take i).any fun x=>decide (x.name=m.name))=true
 ·rw[if_pos h2] at h;cases h
 rw[if_neg h2] at h;by_cases h3:m.parent < -1∨(i:Int)<=m.parent
 ·rw[if_pos h3] at h;cases h
 rw[if_neg h3] at h;by_cases h4:0<=m.parent∧hasF l m.parent=true
 ·rw[if_pos h4] at h;cases h
 rw[if_neg h4] at h;by_cases h5:m.sign < -1∨1 < m.sign
 ·rw[if_pos h5] at h;cases h
 rw[if_neg h5] at h;by_cases h6:100 < m.formula.size
 ·rw[if_pos h6] at h;cases h
 refine ⟨by simpa using h1,by simpa using h2,by omega,fun hp => ?_,by omega,by omega⟩;cases hf:hasF l m.parent with
 | false=>rfl
 | true=>exact absurd ⟨hp,hf⟩ h4
theorem DimOk.rooted {d:Dim} (h:DimOk d):Rooted d.members :=
 ⟨fun i m hi=>(zcy (h.mem i m hi)).2.2.1,fun i m hi=>(zcy (h.mem i m hi)).2.2.2.2.1,fun i m hi=>(zcy (h.mem i m hi)).2.2.2.1⟩
theorem upP_fuel {l:List Member} (h:Rooted l):∀ (f:Nat) (i:Int) (g:Nat),i < f->i < g->upP l f i=upP l g i:=by
 intro f
 induction f with
 | zero =>
  intro i g h1 h2;cases g with
  | zero=>rfl
  | succ g=>simp only[upP];rw[if_pos (by omega)]
 | succ f ih =>
  intro i g h1 h2;by_cases hi:i < 0
  ·cases g with
   | zero=>simp only[upP];rw[if_pos hi]
   | succ g=>simp only[upP];rw[if_pos hi,if_pos hi]
  ·cases g with
   | zero=>omega
   | succ g =>
    simp only[upP];rw[if_neg hi,if_neg hi];cases hm:l[i.toNat]? with
    | none=>rfl
    | some m =>
     have:=h.up _ _ hm;simp only;rw[ih m.parent g (by omega) (by omega)]
def path (l:List Member) (i:Int):List Int:=upP l (i.toNat+1) i
theorem yJ {l:List Member} {i:Int} (hi:i < 0):path l i=[]:=by unfold path upP;rw[if_pos hi]
theorem wn {l:List Member} (h:Rooted l) {i:Nat} {m:Member} (hi:l[i]? = some m):path l i=(i:Int) :: path l m.parent:=by
 have hu:=h.up _ _ hi;have e:path l (i:Int)=(i:Int) :: upP l i m.parent:=by
  unfold path;rw[Int.toNat_natCast];simp only[upP,Int.toNat_natCast,hi];rw[if_neg (by omega)]
 rw[e];unfold path;rw[upP_fuel h i m.parent (m.parent.toNat+1) (by omega) (by omega)]
theorem path_len {l:List Member} (h:Rooted l):∀ (n i:Nat),i<=n->i < l.length->(path l i).length<=i+1:=by
 intro n
 induction n with
 | zero =>
  intro i hi hl;rw[wn h (getElem?_eq_getElem hl)];have:=h.up _ _ (getElem?_eq_getElem hl);rw[yJ (by omega)];simp
 | succ n ih =>
  intro i hi hl;rw[wn h (getElem?_eq_getElem hl)];have:=h.up _ _ (getElem?_eq_getElem hl);by_cases hp:(l[i]).parent < 0
  ·rw[yJ hp];simp
  ·obtain ⟨k,hk⟩:=Int.eq_ofNat_of_zero_le (by omega:0<=(l[i]).parent);rw[hk] at this ⊢;have:=ih k (by omega) (by omega);simp;omega
theorem up_loop {d:Dim} (h:Rooted d.members) (hl:d.members.length<=1000):∀ (n i:Nat),i<=n->i < d.members.length->∀ acc:List Int,acc.length+i<=2000->lpO (zda d) ((i:Int),acc)=some (.inl (-1,acc++path d.members i)):=by
 have room:∀ k:Nat,k<=3000->k<=roomA:=fun k hk=>by unfold roomA;omega
 intro n
 induction n with
 | zero =>
  intro i hi hlt acc ha;obtain rfl:i=0:=by omega
  have hm:=getElem?_eq_getElem hlt;have hu:=h.up _ _ hm;have hp:(d.members[0]).parent = -1:=by omega
  rw[wn h hm,yJ (by omega),zac (y:=(-1,acc++[0])),qp (y:=(-1,acc++[0]))]
  ·rfl
  ·simp[zda]
  ·have hr:=room (acc.length+1) (by omega);have hm':zx d.members 0=some d.members[0]:=zf (xs:=d.members) 0 ▸ hm;simp[zda,hr,hm',hp]
 | succ n ih =>
  intro i hi hlt acc ha;have hm:=getElem?_eq_getElem hlt;have hu:=h.up _ _ hm;have hr:=room (acc.length+1) (by omega);have hnx:zda d ((i:Int),acc)=some (.nx ((d.members[i]).parent,acc++[(i:Int)])):=by
   have:(0:Int)<=(i:Int):=by omega
   simp[zda,hr,zf,hm,this]
  rw[wn h hm,zac hnx];by_cases hp:(d.members[i]).parent < 0
  ·have e:(d.members[i]).parent = -1:=by omega
   rw[yJ hp,e,qp (y:=(-1,acc++[(i:Int)])) (by simp[zda])]
  ·obtain ⟨k,hk⟩:=Int.eq_ofNat_of_zero_le (by omega:0<=(d.members[i]).parent);rw[hk] at hu ⊢;rw[ih k (by omega) (by omega) (acc++[(i:Int)]) (by simp;omega)];simp
theorem P48_eq {d:Dim} (h:Rooted d.members) (hl:d.members.length<=1000) {i:Nat} (hi:i < d.members.length):P48 d i=some (path d.members i):=by
 simp only[P48,S48,jD];rw[up_loop h hl i i (le_refl _) hi [] (by simp;omega)];simp
def zjd (p:Nat->Bool) (n:Nat):List Int:=((List.range n).filter p).map fun (k:Nat)=>(k:Int)
theorem idxs_succ (p:Nat->Bool) (n:Nat):zjd p (n+1)=match p n with | true=>zjd p n++[(n:Int)] | false=>zjd p n:=by
 unfold zjd;rw[List.range_succ,List.filter_append];cases h:p n<;>simp[h]
theorem zaK (p:Nat->Bool) (n:Nat):(zjd p n).length<=n:=by
 unfold zjd;rw[List.length_map];have:=List.length_filter_le p (List.range n);simpa using this
theorem zeG {p:Nat->Bool} {n:Nat} {x:Int}:x∈zjd p n↔∃ k:Nat,x=k∧k < n∧p k=true:=by
 unfold zjd;simp only[List.mem_map,List.mem_filter,List.mem_range];exact ⟨fun ⟨k,⟨h1,h2⟩,h3⟩=>⟨k,h3.symm,h1,h2⟩,fun ⟨k,h1,h2,h3⟩=>⟨k,⟨h2,h3⟩,h1.symm⟩⟩
theorem idxs_loop {α:Type} {B:(List Int×Int)->Option (LR (List Int×Int) α)} (p:Nat->Bool) (n:Nat) (h:∀ (i:Nat) (acc:List Int),i < n->acc.length<=i->B (acc,(i:Int))=some (.nx (match p i with | true=>acc++[(i:Int)] | false=>acc,(i:Int)+1))) (hn:∀ acc,B (acc,(n:Int))=some (.dn (acc,(n:Int)))) :
  lpO B ([],0)=some (.inl (zjd p n,(n:Int))):=by
 have:=(qi (B:=B) (fun i=>(zjd p i,(i:Int))) n fun i hi=>by
  rw[h i _ hi (zaK p i),idxs_succ];rfl).trans (qp (hn _))
 exact this
def zcC (l:List Member) (i:Int) (k:Nat):Bool:=match l[k]? with | some m=>decide (m.parent=i) | none=>false
def partsOf (l:List Member) (i:Int):List Int:=zjd (zcC l i) l.length
theorem P47_eq {d:Dim} (hl:d.members.length<=1000) (i:Int):P47 d i=some (partsOf d.members i):=by
 simp only[P47,S47,jD];rw[idxs_loop (zcC d.members i) d.members.length (fun k acc hk ha => ?_) (fun acc=>by simp[S47_L1])]
 ·rfl
 ·have e:((k:Nat):Int) < ((d.members.length:Nat):Int):=by omega
  have hr:acc.length+1<=roomA:=by unfold roomA;omega
  simp only[S47_L1,e,decide_true,zq,zf,getElem?_eq_getElem hk,zo,zcC,List.length_singleton,zE hr,zM,zfM];rw[qX (by omega) (by omega)];by_cases h:(d.members[k]).parent=i<;>simp[h]
def yZ (l:List Member) (k:Nat):Bool:=match l[k]? with | some m=>decide (m.formula=⟨#[]⟩) && decide (partsOf l k=[]) | none=>false
theorem P44_eq {d:Dim} (hl:d.members.length<=1000) {k:Nat} (hk:k < d.members.length):P44 d k=some (yZ d.members k):=by
 have e:decide (((List.length (partsOf d.members k):Nat):Int)=0)=decide (partsOf d.members k=[]):=by
  congr 1;rw[← List.length_eq_zero_iff];exact propext ⟨fun h=>by omega,fun h=>by omega⟩
 simp only[P44,S44,zf,getElem?_eq_getElem hk,zo,P47_eq hl,yZ,e];by_cases h:(d.members[k]).formula=⟨#[]⟩<;>simp[h]
def sgn (l:List Member) (x:Int):Int:=match l[x.toNat]? with | some m=>m.sign | none=>0
def wl (l:List Member) (i:Int):List Int->Option Int
 | []=>none
 | x :: r=>if x=i then some 1 else (wl l i r).map fun v=>sgn l x * v
theorem zcv {w s:Int} (hw : -1<=w∧w<=1) (hs : -1<=s∧s<=1) : -1<=w * s∧w * s<=1:=by
 rcases (by omega:w = -1∨w=0∨w=1) with rfl | rfl | rfl<;>constructor<;>omega
theorem sgn_in {l:List Member} (h:Rooted l) (x:Int) : -1<=sgn l x∧sgn l x<=1:=by
 unfold sgn;cases hm:l[x.toNat]? with
 | none=>simp
 | some m=>exact h.sign _ _ hm
theorem wl_in {l:List Member} (h:Rooted l) (i:Int):∀ (ys:List Int) (v:Int),wl l i ys=some v -> -1<=v∧v<=1:=by
 intro ys
 induction ys with
 | nil=>intro v hv;cases hv
 | cons x r ih =>
  intro v hv;simp only[wl] at hv;split at hv
  ·cases hv;omega
  ·cases hr:wl l i r with
   | none=>rw[hr] at hv;cases hv
   | some u=>rw[hr] at hv;cases hv;exact zcv (sgn_in h x) (ih u hr)
theorem zhU {l:List Member} (h:Rooted l):∀ (n k:Nat),k<=n->k < l.length->∀ x∈path l k,0<=x∧x<=k:=by
 intro n
 induction n with
 | zero =>
  intro k hk hl x hx;have hm:=getElem?_eq_getElem hl;have hu:=h.up _ _ hm;rw[wn h hm,yJ (by omega)] at hx;simp at hx;omega
 | succ n ih =>
  intro k hk hl x hx;have hm:=getElem?_eq_getElem hl;have hu:=h.up _ _ hm;rw[wn h hm] at hx;rcases mem_cons.1 hx with rfl | hx
  ·omega
  ·by_cases hp:(l[k]).parent < 0
   ·rw[yJ hp] at hx;cases hx
   ·obtain ⟨j,hj⟩:=Int.eq_ofNat_of_zero_le (by omega:0<=(l[k]).parent);rw[hj] at hx hu;have:=ih j (by omega) (by omega) x hx;omega
def wOf (l:List Member) (i:Int) (k:Nat):Int×Bool:=match wl l i (path l k) with | some w=>(w,true) | none=>(0,false)
theorem w_loop {d:Dim} (h:Rooted d.members) (i:Int) (y1:List Int) (hy:y1.length<=100000) (hv:∀ x∈y1,0<=x∧x < d.members.length):∀ (ys pre:List Int) (w:Int),y1=pre++ys -> -1<=w->w<=1 ->
  jn (lpO (zea d i y1) (w,(pre.length:Int))) (fun _=>some ((0:Int),false))=some (match wl d.members i ys with | some v=>(w * v,true) | none=>(0,false)):=by
 intro ys
 induction ys with
 | nil =>
  intro pre w e h1 h2;subst e;rw[qp (y:=(w,(pre.length:Int))) (by simp[zea])];rfl
 | cons x r ih =>
  intro pre w e h1 h2;have hlt:((pre.length:Nat):Int) < ((y1.length:Nat):Int):=by rw[e];simp;omega
  have hx:y1[pre.length]? = some x:=by rw[e];simp
  have hin:=hv x (by rw[e];simp);simp only[wl];by_cases hxi:x=i
  ·rw[if_pos hxi,yP (a:=(w,true)) (by simp[zea,hlt,zf,hx,hxi])];simp
  ·rw[if_neg hxi];have hs:sgn d.members x=(d.members[x.toNat]'(by omega)).sign:=by unfold sgn;rw[getElem?_eq_getElem (by omega)]
   have hb:=zcv ⟨h1,h2⟩ (sgn_in h x);have hnx:zea d i y1 (w,(pre.length:Int))=some (.nx (w * sgn d.members x,((pre++[x]).length:Int))):=by
    have hlen:pre.length < y1.length:=by omega
    simp only[zea,hlt,decide_true,zq,zf,hx,zo,hxi,decide_false,zg,zeI hin.1 hin.2,zfM,← hs];rw[qX (n:=w * sgn d.members x) (by omega) (by omega),qX (n:=(pre.length:Int)+1) (by omega) (by omega)];simp
   rw[zac hnx,ih (pre++[x]) _ (by rw[e];simp) hb.1 hb.2];cases wl d.members i r with
   | none=>rfl
   | some v=>simp[Int.mul_assoc]
theorem P45_eq {d:Dim} (h:Rooted d.members) (hl:d.members.length<=1000) (i:Int) {k:Nat} (hk:k < d.members.length):P45 d i k=some (wOf d.members i k):=by
 simp only[P45,S45,P48_eq h hl hk,zo,jD];have:=w_loop h i (path d.members k) (by have:=path_len h k k (le_refl _) hk;omega) (fun x hx=>by have:=zhU h k k (le_refl _) hk x hx;omega) (path d.members k) [] 1 rfl (by omega) (by omega);simp only[List.length_nil,Int.one_mul] at this;exact this
section
variable {d:Dim}
end
end
section
theorem P97_eq (s:ByteArray):P97 s=some (if zI s=true then 2 else 0):=by
 by_cases h1:s=⟨#[]⟩
 ·subst h1;simp[P97,S97,zI]
 by_cases h2:8 < s.size
 ·have:(8:Int) < ((s.size:Nat):Int):=by omega
  simp[P97,S97,zI,h1,h2,this]
 have h3:¬ (8:Int) < ((s.size:Nat):Int):=by omega
 have hsz:s.data.toList.length=s.size:=rfl;simp only[P97,S97,h1,h3,decide_false,zg,zM,jx];rw[ze6 (fun c:UInt8=>decide (c.toNat < 97) || decide (122 < c.toNat)) s.data.toList 2 0 (fun i y hy => ?_) (by rw[hsz];simp[S97_L1])]
 ·simp[zI,h1,h2]
 ·have hi:=(List.getElem?_eq_some_iff.1 hy).1;have e:((i:Nat):Int) < ((s.size:Nat):Int):=by omega
  simp only[S97_L1,e,decide_true,zq,zf,hy,zo];rw[qX (by omega) (by omega)];have e1:((y.toNat:Nat):Int) < 97↔y.toNat < 97:=by omega
  have e2:122 < ((y.toNat:Nat):Int)↔122 < y.toNat:=by omega
  by_cases c1:y.toNat < 97<;>by_cases c2:122 < y.toNat<;>simp[e1,e2,c1,c2]
end
section
def within (n:Int):Bool:=decide (-1000000000000<=n) && decide (n<=1000000000000)
def qS (n:Int):Cell:=if within n then ⟨1,n⟩ else ⟨2,0⟩
def wb (a b:Cell) (s:Int):Cell:=if a.k=2∨b.k=2 then ⟨2,0⟩ else if a.k=0∧b.k=0 then ⟨0,0⟩ else qS (wi (a.n+wi (s * b.n)))
def ze4 (c:Cell):Prop:=c.k < 0∨2 < c.k∨within c.n=false∨(¬ c.k=1∧¬ c.n=0)
instance (c : Cell) : Decidable (ze4 c) := by unfold ze4; infer_instance
def zaQ (a b:Cell):Cell:=if a.k=2∨b.k=2 then ⟨2,0⟩ else if a.k=0∨b.k=0 then ⟨0,0⟩ else if ¬ a.n=0∧wi (Int.tdiv 1000000000000 (maxT a.n (wi (-a.n)))) < maxT b.n (wi (-b.n)) then ⟨2,0⟩ else qS (wi (a.n * b.n))
def cover (a b:Cell):Cell:=if a.k=2∨b.k=2 then ⟨2,0⟩ else if a.k=0∨b.k=0 then ⟨0,0⟩ else if b.n=0 then ⟨2,0⟩ else qS (wi (Int.tdiv a.n b.n))
@[simp] theorem P30_eq (n:Int):P30 n=some (within n):=by
 simp[P30,S30,within]
@[simp] theorem P8_eq (n:Int):P8 n=some (qS n):=by
 simp[P8,S8,qS];cases within n<;>rfl
@[simp] theorem P33_eq (a b:Cell) (s:Int):P33 a b s=some (wb a b s):=by
 simp[P33,S33,wb,br_eq]
 repeat' split
 all_goals first | rfl | (simp_all;done)
@[simp] theorem P52_eq (c:Cell):P52 c=some (if ze4 c then .no 1 else .nil):=by
 by_cases h1:c.k < 0
 ·simp[P52,S52,ze4,h1]
 by_cases h2:2 < c.k
 ·simp[P52,S52,ze4,h2]
 by_cases h3:within c.n=true
 ·by_cases h4:c.k=1
  ·simp[P52,S52,ze4,h3,h4]
  ·have e:br (decide (¬ c.n=0)) (some (Err.no 1)) (some Err.nil)=some (if ¬ c.n=0 then Err.no 1 else Err.nil):=by rw[zF];split<;>rfl
   simp[P52,S52,ze4,h1,h2,h3,h4];by_cases h5:c.n=0
   ·simp[h5]
   ·simp[h5]
 ·simp[P52,S52,ze4,h1,h2,h3]
@[simp] theorem P62_eq (n:Int):P62 n=some (maxT n (wi (-n))):=by simp[P62,S62]
theorem size_eq {n:Int} (h:within n=true):maxT n (wi (-n))=if n < 0 then -n else n:=by
 simp only[within,Bool.and_eq_true,decide_eq_true_eq] at h;rw[qX (by omega) (by omega)];unfold maxT
 split<;>split<;>omega
theorem P34_eq {a:Cell} (b:Cell) (ha:within a.n=true):P34 a b=some (zaQ a b):=by
 by_cases h:a.n=0
 ·simp[P34,S34,zaQ,br_eq,h]
  repeat' split
  all_goals first | rfl | (simp_all;done)
 ·have h':¬ maxT a.n (wi (-a.n))=0:=by rw[size_eq ha];split<;>omega
  simp[P34,S34,zaQ,br_eq,h,h']
  repeat' split
  all_goals first | rfl | (simp_all;done)
@[simp] theorem P35_eq (a b:Cell):P35 a b=some (cover a b):=by
 by_cases h:b.n=0
 ·simp[P35,S35,cover,br_eq,h]
  repeat' split
  all_goals first | rfl | (simp_all;done)
 ·simp[P35,S35,cover,br_eq,h]
  repeat' split
  all_goals first | rfl | (simp_all;done)
def zgm (a b c:Cell):Cell×Err:=if ze4 a∨ze4 b then (⟨0,0⟩,.no 1) else (c,.nil)
@[simp] theorem P9_eq (a b:Cell):P9 a b=some (zgm a b (wb a b 1)):=by
 by_cases h1:ze4 a<;>by_cases h2:ze4 b<;>simp[P9,S9,P31_32,S31_32,P32,S32,zgm,h1,h2]
@[simp] theorem P12_eq (a b:Cell):P12 a b=some (zgm a b (wb a b (-1))):=by
 by_cases h1:ze4 a<;>by_cases h2:ze4 b<;>simp[P12,S12,P31_36,S31_36,P36,S36,zgm,h1,h2]
@[simp] theorem P10_eq (a b:Cell):P10 a b=some (zgm a b (zaQ a b)):=by
 by_cases h1:ze4 a<;>by_cases h2:ze4 b<;>simp[P10,S10,P31_34,S31_34,zgm,h1,h2];rw[P34_eq b (by simp only[ze4,not_or] at h1;simpa using h1.2.2.1)];rfl
@[simp] theorem P11_eq (a b:Cell):P11 a b=some (zgm a b (cover a b)):=by
 by_cases h1:ze4 a<;>by_cases h2:ze4 b<;>simp[P11,S11,P31_35,S31_35,zgm,h1,h2]
end
section
end
section
end
end Ab
