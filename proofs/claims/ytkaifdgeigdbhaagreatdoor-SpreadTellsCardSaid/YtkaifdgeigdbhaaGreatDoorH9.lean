import Derived.Test.YtkaifdgeigdbhaaGreatDoorHF
open Int (lt_irrefl)
set_option linter.all false
namespace Ab
open Go
section
def ml {x y:Int}:x<=y↔x < y∨x=y:=by omega
def zdJ:∀ {as bs:List Int},as.Pairwise (· < ·)->bs.Pairwise (· < ·)->(∀ x,x∈as↔x∈bs)->as=bs
 | [],[],_,_,_=>rfl
 | [],b :: bs,_,_,h=>absurd ((h b).2 (by simp)) (by simp)
 | a :: as,[],_,_,h=>absurd ((h a).1 (by simp)) (by simp)
 | a :: as,b :: bs,ha,hb,h=>by
  obtain ⟨lF,fJ⟩:=Bz.1 ha;obtain ⟨eQ,cT⟩:=Bz.1 hb;have e:a=b:=by
   rcases As.1 ((h a).1 (by simp)) with e | hm
   ·exact e
   ·rcases As.1 ((h b).2 (by simp)) with e | fw
    ·exact e.symm
    ·exact absurd (Int.lt_trans (eQ a hm) (lF b fw)) (lt_irrefl b)
  subst e;congr 1;refine zdJ fJ cT fun x => ?_;have hx:=h x;simp only[As] at hx;refine ⟨fun hm => ?_,fun hm => ?_⟩
  ·rcases hx.1 (.inr hm) with rfl | fw
   ·exact absurd (lF x hm) (lt_irrefl x)
   ·exact fw
  ·rcases hx.2 (.inr hm) with rfl | fw
   ·exact absurd (eQ x hm) (lt_irrefl x)
   ·exact fw
def zh1 (zs:List Int) (hz:zs.Pairwise (·<=·)):∀ m,m<=zs.length->(Lib.compactUpTo zs.toArray m).Pairwise (· < ·)∧(∀ x,x∈Lib.compactUpTo zs.toArray m↔x∈zs.take m)∧∀ k y,m=k+1->zs[k]? = some y->∀ x∈Lib.compactUpTo zs.toArray m,x<=y:=by
 intro m
 induction m with
 | zero=>intro _;exact ⟨by simp[Lib.compactUpTo],by simp[Lib.compactUpTo],fun k y e=>by omega⟩
 | succ m ih =>
  intro hm;obtain ⟨i1,i2,i3⟩:=ih (by omega);have hg:zs[m]? = some zs[m]:=Aa (by omega);have e1:zs.toArray[m]! = zs[m]:=by simp[getElem!_pos,show m < zs.length by omega]
  have ht:zs.take (m+1)=zs.take m++[zs[m]]:=by rw[A6,hg];rfl
  rw[Lib.compactUpTo_succ,e1];by_cases hk:Lib.keeps zs.toArray m=true
  ·rw[if_pos hk];have ae:∀ x∈Lib.compactUpTo zs.toArray m,x < zs[m]:=by
    intro x hx;cases m with
    | zero=>simp[Lib.compactUpTo] at hx
    | succ k =>
     have h1:=i3 k zs[k] rfl (Aa (by omega)) x hx;have h2:zs[k]<=zs[k+1]:=(CI.1 hz) k (k+1) (by omega) (by omega) (by omega);have e2:zs.toArray[k]! = zs[k]:=by simp[getElem!_pos,show k < zs.length by omega]
     have h3:zs[k+1]≠zs[k]:=by
      unfold Lib.keeps at hk;have:=of_decide_eq_true hk;rcases this with h | h
      ·omega
      ·rw[CF,e2,e1] at h;exact h
     rcases ml.1 h2 with h2 | h2
     ·rcases ml.1 h1 with h1 | rfl
      ·exact Int.lt_trans h1 h2
      ·exact h2
     ·exact absurd h2.symm h3
   refine ⟨Bt.2 ⟨i1,by simp,fun x hx y hy => ?_⟩,fun x => ?_,fun k y e hy x hx => ?_⟩
   ·obtain rfl:=Ai.1 hy;exact ae x hx
   ·rw[ht,Ah,Ah,i2]
   ·obtain rfl:k=m:=by omega
    rw[hg] at hy;cases hy;rcases Ah.1 hx with hx | hx
    ·exact ml.2 (.inl (ae x hx))
    ·obtain rfl:=Ai.1 hx;exact Int.le_refl _
  ·rw[if_neg hk,Bg];cases m with
   | zero=>exact absurd (Lib.keeps_lt_one _ 0 (by omega)) hk
   | succ k =>
    have e2:zs.toArray[k]! = zs[k]:=by simp[getElem!_pos,show k < zs.length by omega]
    have h3:zs[k+1]=zs[k]:=(by unfold Lib.keeps at hk;have h:=hk;rw[decide_eq_true_eq] at h;have h:=not_or.1 h;have:=Decidable.not_not.1 h.2;rw[CF,e2,e1] at this;exact this);refine ⟨i1,fun x => ?_,fun k' y e hy x hx => ?_⟩
    ·rw[ht,Ah,i2,Ai];refine ⟨.inl,fun h => ?_⟩;rcases h with h | rfl
     ·exact h
     ·rw[h3];exact BL.2 ⟨k,by omega,rfl⟩
    ·obtain rfl:k'=k+1:=by omega
     rw[hg] at hy;cases hy;rw[h3];exact i3 k zs[k] rfl (Aa (by omega)) x hx
def zis (l:List Int):(l.mergeSort fun x y=>decide (x<=y)).Pairwise (·<=·):=by have h:=List.pairwise_mergeSort (le:=fun (x y:Int)=>decide (x<=y)) (fun a b c h1 h2=>by simp only[decide_eq_true_eq] at *;exact CR h1 h2) (fun a b=>by simp only[B0,decide_eq_true_eq];exact Int.le_total a b) l;exact h.imp fun h=>by simpa using h
def cB (l:List Int):List Int:=gv (zdL l)
def zfR (l:List Int):(cB l).Pairwise (· < ·)∧∀ x,x∈cB l↔x∈l:=by obtain ⟨h1,h2,_⟩:=zh1 _ (zis l) _ (AG _);unfold cB gv Lib.compact;refine ⟨h1,fun x => ?_⟩;rw[show (zdL l).length=(l.mergeSort fun x y=>decide (x<=y)).length from rfl];show x∈Lib.compactUpTo (l.mergeSort fun x y=>decide (x<=y)).toArray (l.mergeSort fun x y=>decide (x<=y)).length↔_;rw[h2,BI];exact (List.mergeSort_perm _ _).mem_iff
def cd (l:List Int) (n:Int):List Int:=let k:=(l.takeWhile fun a=>decide (a < n)).length;if l[k]? = some n then l else l.take k++[n]++l.drop k
def zjD {α:Type} (p:α->Bool):∀ (l:List α),(∀ x∈l.take (l.takeWhile p).length,p x=true)∧(∀ y,l[(l.takeWhile p).length]? = some y->p y=false)∧(l.takeWhile p).length<=l.length
 | []=>⟨by simp,by simp,by simp⟩
 | a :: r=>by
  obtain ⟨h1,h2,h3⟩:=zjD p r;by_cases e:p a=true
  ·rw[List.takeWhile_cons_of_pos e];refine ⟨fun x hx => ?_,fun y hy => ?_,by simp;exact h3⟩
   ·simp only[Ax,C1,As] at hx;rcases hx with rfl | hx
    ·exact e
    ·exact h1 x hx
   ·exact h2 y (by simpa using hy)
  ·rw[List.takeWhile_cons_of_neg e];exact ⟨by simp,fun y hy=>by simp at hy;subst hy;simpa using e,by simp⟩
def insI_ok {l:List Int} {n:Int} (h:l.Pairwise (· < ·)):(cd l n).Pairwise (· < ·)∧∀ x,x∈cd l n↔x∈l∨x=n:=by
 obtain ⟨w1,w2,w3⟩:=zjD (fun a=>decide (a < n)) l;unfold cd;generalize (l.takeWhile fun a=>decide (a < n)).length=k at *;simp only;by_cases hk:l[k]? = some n
 ·rw[if_pos hk];refine ⟨h,fun x=>⟨.inl, ?_⟩⟩;rintro (hx | rfl)
  ·exact hx
  ·exact Ad hk
 ·rw[if_neg hk];have cj:l.take k++l.drop k=l:=Cr k l;have ae:∀ x∈l.take k,x < n:=fun x hx=>by simpa using w1 x hx
  have rl:∀ x∈l.drop k,n < x:=by
   intro x hx;obtain ⟨j,hj,rfl⟩:=BF hx;rw[Ce] at hj;rw[CJ];have fW:k < l.length:=by omega
   have h0:=w2 l[k] (Aa fW);rw[decide_eq_false_iff_not] at h0;have h1:l[k]≠n:=fun e=>hk (by rw[Aa fW,e]);by_cases e:j=0
   ·subst e;simp only[BD];omega
   ·have:=(CI.1 h) k (k+j) fW (by omega) (by omega);omega
  constructor
  ·rw[AN,Bt];refine ⟨h.sublist (List.take_sublist _ _), ?_,fun x hx y hy => ?_⟩
   ·rw[List.singleton_append,Bz];exact ⟨rl,h.sublist (List.drop_sublist _ _)⟩
   ·have:=ae x hx;rcases Ah.1 hy with hy | hy
    ·rw[Ai.1 hy];exact this
    ·have:=rl y hy;omega
  ·intro x;rw[AN,Ah,List.singleton_append,As];constructor
   ·rintro (hx | rfl | hx)
    ·exact .inl (BJ hx)
    ·exact .inr rfl
    ·exact .inl (BP hx)
   ·rintro (hx | rfl)
    ·rw[← cj,Ah] at hx;rcases hx with hx | hx
     ·exact .inl hx
     ·exact .inr (.inr hx)
    ·exact .inr (.inl rfl)
def zhP:∀ (l acc:List Int),acc.Pairwise (· < ·)->(l.foldl cd acc).Pairwise (· < ·)∧∀ x,x∈l.foldl cd acc↔x∈acc∨x∈l
 | [],acc,h=>⟨h,by simp⟩
 | a :: r,acc,h=>by
  obtain ⟨h1,h2⟩:=insI_ok (n:=a) h;obtain ⟨h3,h4⟩:=zhP r _ h1;refine ⟨h3,fun x => ?_⟩;rw[Bv,h4,h2,As];constructor
  ·rintro ((h | h) | h)
   ·exact .inl h
   ·exact .inr (.inl h)
   ·exact .inr (.inr h)
  ·rintro (h | h | h)
   ·exact .inl (.inl h)
   ·exact .inl (.inr h)
   ·exact .inr h
def zhO (l:List Int):l.foldl cd []=cB l:=by obtain ⟨h1,h2⟩:=zhP l [] List.Pairwise.nil;obtain ⟨h3,h4⟩:=zfR l;exact zdJ h1 h3 fun x=>by rw[h2,h4];simp
end
section
def badAt (d:Dim) (at_:List Int):Bool:=at_.any fun x=>decide (x < 0) || decide ((d.members.length:Int)<=x)
def upP (l:List Member):Nat->Int->List Int
 | 0,_=>[]
 | f+1,i=>if i < 0 then [] else match l[i.toNat]? with | some m=>i :: upP l f m.parent | none=>[]
structure Rooted (l:List Member):Prop where
 up:∀ (i:Nat) (m:Member),l[i]? = some m -> -1<=m.parent∧m.parent < i
 sign:∀ (i:Nat) (m:Member),l[i]? = some m -> -1<=m.sign∧m.sign<=1
 form:∀ (i:Nat) (m:Member),l[i]? = some m->0<=m.parent->eF l m.parent=false
def mx {l:List Member} {i:Nat} {m:Member} (h:jF l i m=0):z8 m.name=false∧((l.take i).any fun x=>decide (x.name=m.name))=false∧(-1<=m.parent∧m.parent < i)∧(0<=m.parent->eF l m.parent=false)∧(-1<=m.sign∧m.sign<=1)∧m.formula.size<=100:=by
 unfold jF at h;by_cases h1:z8 m.name=true
 ·rw[if_pos h1] at h;cases h
 rw[if_neg h1] at h;by_cases h2:((l.take i).any fun x=>decide (x.name=m.name))=true
 ·rw[if_pos h2] at h;cases h
 rw[if_neg h2] at h;by_cases h3:m.parent < -1∨(i:Int)<=m.parent
 ·rw[if_pos h3] at h;cases h
 rw[if_neg h3] at h;by_cases h4:0<=m.parent∧eF l m.parent=true
 ·rw[if_pos h4] at h;cases h
 rw[if_neg h4] at h;by_cases h5:m.sign < -1∨1 < m.sign
 ·rw[if_pos h5] at h;cases h
 rw[if_neg h5] at h;by_cases h6:100 < m.formula.size
 ·rw[if_pos h6] at h;cases h
 refine ⟨by simpa using h1,by simpa using h2,by omega,fun hp => ?_,by omega,by omega⟩;cases hf:eF l m.parent with
 | false=>rfl
 | true=>exact absurd ⟨hp,hf⟩ h4
def DimOk.rooted {d:Dim} (h:DimOk d):Rooted d.members :=
 ⟨fun i m hi=>(mx (h.mem i m hi)).2.2.1,fun i m hi=>(mx (h.mem i m hi)).2.2.2.2.1,fun i m hi=>(mx (h.mem i m hi)).2.2.2.1⟩
def upP_fuel {l:List Member} (h:Rooted l):∀ (f:Nat) (i:Int) (g:Nat),i < f->i < g->upP l f i=upP l g i:=by
 intro f
 induction f with
 | zero =>
  intro i g h1 h2;cases g with
  | zero=>rfl
  | succ g=>simp only[upP];rw[if_pos (by omega)]
 | succ f ih =>
  intro i g h1 h2;by_cases hi:i < 0
  ·cases g with
   | zero=>simp only[upP];rw[if_pos hi]
   | succ g=>simp only[upP];rw[if_pos hi,if_pos hi]
  ·cases g with
   | zero=>omega
   | succ g =>
    simp only[upP];rw[if_neg hi,if_neg hi];cases hm:l[i.toNat]? with
    | none=>rfl
    | some m =>have:=h.up _ _ hm;simp only;rw[ih m.parent g (by omega) (by omega)]
def path (l:List Member) (i:Int):List Int:=upP l (i.toNat+1) i
def yU {l:List Member} {i:Int} (hi:i < 0):path l i=[]:=by unfold path upP;rw[if_pos hi]
def zaj {l:List Member} (h:Rooted l) {i:Nat} {m:Member} (hi:l[i]? = some m):path l i=(i:Int) :: path l m.parent:=by have hu:=h.up _ _ hi;have e:path l (i:Int)=(i:Int) :: upP l i m.parent:=(by unfold path;rw[Am];simp only[upP,Am,hi];rw[if_neg (by omega)]);rw[e];unfold path;rw[upP_fuel h i m.parent (m.parent.toNat+1) (by omega) (by omega)]
def path_len {l:List Member} (h:Rooted l):∀ (n i:Nat),i<=n->i < l.length->(path l i).length<=i+1:=by
 intro n
 induction n with
 | zero =>intro i hi hl;rw[zaj h (Aa hl)];have:=h.up _ _ (Aa hl);rw[yU (by omega)];simp
 | succ n ih =>
  intro i hi hl;rw[zaj h (Aa hl)];have:=h.up _ _ (Aa hl);by_cases hp:(l[i]).parent < 0
  ·rw[yU hp];simp
  ·obtain ⟨k,hk⟩:=Bx (by omega:0<=(l[i]).parent);rw[hk] at this ⊢;have:=ih k (by omega) (by omega);simp;omega
def up_loop {d:Dim} (h:Rooted d.members) (hl:d.members.length<=1000):∀ (n i:Nat),i<=n->i < d.members.length->∀ acc:List Int,acc.length+i<=2000->lpO (zeI d) ((i:Int),acc)=some (.inl (-1,acc++path d.members i)):=by
 have room:∀ k:Nat,k<=3000->k<=zH:=fun k hk=>by unfold zH;omega
 intro n
 induction n with
 | zero =>
  intro i hi ae acc ha;obtain rfl:i=0:=by omega
  have hm:=Aa ae;have hu:=h.up _ _ hm;have hp:(d.members[0]).parent = -1:=by omega
  rw[zaj h hm,yU (by omega),z6 (y:=(-1,acc++[0])),zD (y:=(-1,acc++[0]))]
  ·rfl
  ·simp[zeI]
  ·have hr:=room (acc.length+1) (by omega);have gj:zo d.members 0=some d.members[0]:=zb (xs:=d.members) 0 ▸ hm;simp[zeI,hr,gj,hp]
 | succ n ih =>
  intro i hi ae acc ha;have hm:=Aa ae;have hu:=h.up _ _ hm;have hr:=room (acc.length+1) (by omega);have eM:zeI d ((i:Int),acc)=some (.nx ((d.members[i]).parent,acc++[(i:Int)])):=by
   have:(0:Int)<=(i:Int):=by omega
   simp[zeI,hr,zb,hm,this]
  rw[zaj h hm,z6 eM];by_cases hp:(d.members[i]).parent < 0
  ·have e:(d.members[i]).parent = -1:=by omega
   rw[yU hp,e,zD (y:=(-1,acc++[(i:Int)])) (by simp[zeI])]
  ·obtain ⟨k,hk⟩:=Bx (by omega:0<=(d.members[i]).parent);rw[hk] at hu ⊢;rw[ih k (by omega) (by omega) (acc++[(i:Int)]) (by simp;omega)];simp
def P48_eq {d:Dim} (h:Rooted d.members) (hl:d.members.length<=1000) {i:Nat} (hi:i < d.members.length):P48 d i=some (path d.members i):=by simp only[P48,S48,zO];rw[up_loop h hl i i (AG _) hi [] (by simp;omega)];simp
def zlf (p:Nat->Bool) (n:Nat):List Int:=((List.range n).filter p).map fun (k:Nat)=>(k:Int)
def idxs_succ (p:Nat->Bool) (n:Nat):zlf p (n+1)=match p n with | true=>zlf p n++[(n:Int)] | false=>zlf p n:=by unfold zlf;rw[BZ,B8];cases h:p n<;>simp[h]
def zbS (p:Nat->Bool) (n:Nat):(zlf p n).length<=n:=by unfold zlf;rw[Ao];have:=Bo p (List.range n);simpa using this
def mem_idxs {p:Nat->Bool} {n:Nat} {x:Int}:x∈zlf p n↔∃ k:Nat,x=k∧k < n∧p k=true:=by unfold zlf;simp only[Aj,BC,Bj];exact ⟨fun ⟨k,⟨h1,h2⟩,h3⟩=>⟨k,h3.symm,h1,h2⟩,fun ⟨k,h1,h2,h3⟩=>⟨k,⟨h2,h3⟩,h1.symm⟩⟩
def mr {α:Type} {B:(List Int×Int)->Option (LR (List Int×Int) α)} (p:Nat->Bool) (n:Nat) (h:∀ (i:Nat) (acc:List Int),i < n->acc.length<=i->B (acc,(i:Int))=some (.nx (match p i with | true=>acc++[(i:Int)] | false=>acc,(i:Int)+1))) (hn:∀ acc,B (acc,(n:Int))=some (.dn (acc,(n:Int)))) :
  lpO B ([],0)=some (.inl (zlf p n,(n:Int))):=by
 have:=(zU (B:=B) (fun i=>(zlf p i,(i:Int))) n fun i hi=>by
  rw[h i _ hi (zbS p i),idxs_succ];rfl).trans (zD (hn _))
 exact this
def zhG (l:List Member) (i:Int) (k:Nat):Bool:=match l[k]? with | some m=>decide (m.parent=i) | none=>false
def partsOf (l:List Member) (i:Int):List Int:=zlf (zhG l i) l.length
def P47_eq {d:Dim} (hl:d.members.length<=1000) (i:Int):P47 d i=some (partsOf d.members i):=by
 simp only[P47,S47,zO];rw[mr (zhG d.members i) d.members.length (fun k acc hk ha => ?_) (fun acc=>by simp[S47_L1])]
 ·rfl
 ·have e:((k:Nat):Int) < ((d.members.length:Nat):Int):=by omega
  have hr:acc.length+1<=zH:=by unfold zH;omega
  simp only[S47_L1,e,decide_true,zg,zb,Aa hk,zk,zhG,Bb,zw hr,zt,qR];rw[zJ (by omega) (by omega)];by_cases h:(d.members[k]).parent=i<;>simp[h]
def zap (l:List Member) (k:Nat):Bool:=match l[k]? with | some m=>decide (m.formula=⟨#[]⟩) && decide (partsOf l k=[]) | none=>false
def P44_eq {d:Dim} (hl:d.members.length<=1000) {k:Nat} (hk:k < d.members.length):P44 d k=some (zap d.members k):=by have e:decide (((List.length (partsOf d.members k):Nat):Int)=0)=decide (partsOf d.members k=[]):=(by congr 1;rw[← Az];exact propext ⟨fun h=>by omega,fun h=>by omega⟩);simp only[P44,S44,zb,Aa hk,zk,P47_eq hl,zap,e];by_cases h:(d.members[k]).formula=⟨#[]⟩<;>simp[h]
def sgn (l:List Member) (x:Int):Int:=match l[x.toNat]? with | some m=>m.sign | none=>0
def wl (l:List Member) (i:Int):List Int->Option Int
 | []=>none
 | x :: r=>if x=i then some 1 else (wl l i r).map fun v=>sgn l x * v
def zbd {w s:Int} (hw : -1<=w∧w<=1) (hs : -1<=s∧s<=1) : -1<=w * s∧w * s<=1:=by rcases (by omega:w = -1∨w=0∨w=1) with rfl | rfl | rfl<;>constructor<;>omega
def sgn_in {l:List Member} (h:Rooted l) (x:Int) : -1<=sgn l x∧sgn l x<=1:=by
 unfold sgn;cases hm:l[x.toNat]? with
 | none=>simp
 | some m=>exact h.sign _ _ hm
def wl_in {l:List Member} (h:Rooted l) (i:Int):∀ (ys:List Int) (v:Int),wl l i ys=some v -> -1<=v∧v<=1:=by
 intro ys
 induction ys with
 | nil=>intro v hv;cases hv
 | cons x r ih =>
  intro v hv;simp only[wl] at hv;split at hv
  ·cases hv;omega
  ·cases hr:wl l i r with
   | none=>rw[hr] at hv;cases hv
   | some u=>rw[hr] at hv;cases hv;exact zbd (sgn_in h x) (ih u hr)
def path_mem {l:List Member} (h:Rooted l):∀ (n k:Nat),k<=n->k < l.length->∀ x∈path l k,0<=x∧x<=k:=by
 intro n
 induction n with
 | zero =>intro k hk hl x hx;have hm:=Aa hl;have hu:=h.up _ _ hm;rw[zaj h hm,yU (by omega)] at hx;simp at hx;omega
 | succ n ih =>
  intro k hk hl x hx;have hm:=Aa hl;have hu:=h.up _ _ hm;rw[zaj h hm] at hx;rcases As.1 hx with rfl | hx
  ·omega
  ·by_cases hp:(l[k]).parent < 0
   ·rw[yU hp] at hx;cases hx
   ·obtain ⟨j,hj⟩:=Bx (by omega:0<=(l[k]).parent);rw[hj] at hx hu;have:=ih j (by omega) (by omega) x hx;omega
def wOf (l:List Member) (i:Int) (k:Nat):Int×Bool:=match wl l i (path l k) with | some w=>(w,true) | none=>(0,false)
def w_loop {d:Dim} (h:Rooted d.members) (i:Int) (y1:List Int) (hy:y1.length<=100000) (hv:∀ x∈y1,0<=x∧x < d.members.length):∀ (ys pre:List Int) (w:Int),y1=pre++ys -> -1<=w->w<=1 ->
  jn (lpO (zfH d i y1) (w,(pre.length:Int))) (fun _=>some ((0:Int),false))=some (match wl d.members i ys with | some v=>(w * v,true) | none=>(0,false)):=by
 intro ys
 induction ys with
 | nil =>intro pre w e h1 h2;subst e;rw[zD (y:=(w,(pre.length:Int))) (by simp[zfH])];rfl
 | cons x r ih =>
  intro pre w e h1 h2;have ae:((pre.length:Nat):Int) < ((y1.length:Nat):Int):=by rw[e];simp;omega
  have hx:y1[pre.length]? = some x:=by rw[e];simp
  have aH:=hv x (by rw[e];simp);simp only[wl];by_cases lW:x=i
  ·rw[if_pos lW,jc (a:=(w,true)) (by simp[zfH,ae,zb,hx,lW])];simp
  ·rw[if_neg lW];have hs:sgn d.members x=(d.members[x.toNat]'(by omega)).sign:=by unfold sgn;rw[Aa (by omega)]
   have hb:=zbd ⟨h1,h2⟩ (sgn_in h x);have eM:zfH d i y1 (w,(pre.length:Int))=some (.nx (w * sgn d.members x,((pre++[x]).length:Int))):=by
    have hlen:pre.length < y1.length:=by omega
    simp only[zfH,ae,decide_true,zg,zb,hx,zk,lW,decide_false,za,zbK aH.1 aH.2,qR,← hs];rw[zJ (n:=w * sgn d.members x) (by omega) (by omega),zJ (n:=(pre.length:Int)+1) (by omega) (by omega)];simp
   rw[z6 eM,ih (pre++[x]) _ (by rw[e];simp) hb.1 hb.2];cases wl d.members i r with
   | none=>rfl
   | some v=>simp[Int.mul_assoc]
def P45_eq {d:Dim} (h:Rooted d.members) (hl:d.members.length<=1000) (i:Int) {k:Nat} (hk:k < d.members.length):P45 d i k=some (wOf d.members i k):=by simp only[P45,S45,P48_eq h hl hk,zk,zO];have:=w_loop h i (path d.members k) (by have:=path_len h k k (AG _) hk;omega) (fun x hx=>by have:=path_mem h k k (AG _) hk x hx;omega) (path d.members k) [] 1 rfl (by omega) (by omega);simp only[Bu,Int.one_mul] at this;exact this
def qq (l:List Member) (i:Int):List Int:=zlf (fun k=>(wl l i (path l k)).isSome && zap l k) l.length
def wOf_snd (l:List Member) (i:Int) (k:Nat):(wOf l i k).2=(wl l i (path l k)).isSome:=by unfold wOf;cases wl l i (path l k)<;>rfl
def P46_eq {d:Dim} (h:Rooted d.members) (hl:d.members.length<=1000) (i:Int):P46 d i=some (qq d.members i):=by
 simp only[P46,S46,zO];rw[mr (fun k=>(wl d.members i (path d.members k)).isSome && zap d.members k) d.members.length (fun k acc hk ha => ?_) (fun acc=>by simp[S46_L1])]
 ·rfl
 ·have e:((k:Nat):Int) < ((d.members.length:Nat):Int):=by omega
  have hr:acc.length+1<=zH:=by unfold zH;omega
  simp only[S46_L1,e,decide_true,zg,P45_eq h hl i hk,zk,wOf_snd,P44_eq hl hk,Bb,zw hr,zt,qR];rw[zJ (by omega) (by omega)];cases (wl d.members i (path d.members k)).isSome<;>cases zap d.members k<;>simp
def treeErr (d:Dim) (at_:List Int):Int:=if (zT d).2=0 then (if badAt d at_=true then 1 else 0) else (zT d).2
section
variable {d:Dim}
end
end
section
def P97_eq (s:ByteArray):P97 s=some (if z8 s=true then 2 else 0):=by
 by_cases h1:s=⟨#[]⟩
 ·subst h1;simp[P97,S97,z8]
 by_cases h2:8 < s.size
 ·have:(8:Int) < ((s.size:Nat):Int):=by omega
  simp[P97,S97,z8,h1,h2,this]
 have h3:¬ (8:Int) < ((s.size:Nat):Int):=by omega
 have aM:s.data.toList.length=s.size:=rfl;simp only[P97,S97,h1,h3,decide_false,za,zt,zN];rw[w8 (fun c:UInt8=>decide (c.toNat < 97) || decide (122 < c.toNat)) s.data.toList 2 0 (fun i y hy => ?_) (by rw[aM];simp[S97_L1])]
 ·simp[z8,h1,h2]
 ·have hi:=(Ac.1 hy).1;have e:((i:Nat):Int) < ((s.size:Nat):Int):=by omega
  simp only[S97_L1,e,decide_true,zg,zb,hy,zk];rw[zJ (by omega) (by omega)];have e1:((y.toNat:Nat):Int) < 97↔y.toNat < 97:=by omega
  have e2:122 < ((y.toNat:Nat):Int)↔122 < y.toNat:=by omega
  by_cases c1:y.toNat < 97<;>by_cases c2:122 < y.toNat<;>simp[e1,e2,c1,c2]
def P96_eq (d:Dim) (s:ByteArray) (h:d.members.length<=9223372036854775807):P96 d s=some (qy d.members s):=by
 refine zat _ d.members (fun i y hy => ?_) (by simp[S96_L1]);have hi:=(Ac.1 hy).1;have e:(((i:Nat):Int) < ((d.members.length:Nat):Int)):=by omega
 simp only[S96_L1,zb,hy,zk,e,decide_true,zg];rw[zJ (by omega) (by omega)];cases decide (y.name=s)<;>rfl
def where_lt {l:List Member} {i:Nat} {m:Member} (hi:l[i]? = some m):qy l m.name < i↔((l.take i).any fun x=>decide (x.name=m.name))=true:=by
 obtain ⟨ae,rfl⟩:=Ac.1 hi;unfold qy idxOf;cases hf:l.findIdx? (fun x=>decide (x.name=l[i].name)) with
 | none =>have:=Ch.1 hf _ (Ay ae);simp at this
 | some k =>
  obtain ⟨hk,h1,h2⟩:=BK.1 hf;simp only[B6];constructor
  ·intro h;have dJ:k < i:=by have h':(k:Int) < i:=h;omega
   exact ⟨l[k],by rw[BL];exact ⟨k,by omega,rfl⟩,h1⟩
  ·rintro ⟨x,hx,hn⟩;rw[BL] at hx;obtain ⟨j,hj,rfl⟩:=hx;show (k:Int) < i;have:¬ j < k:=fun hjk=>h2 j hjk hn;omega
def P95_eq (d:Dim):P95 d=some (zT d):=by
 simp only[P95,S95,P97_eq,zk];unfold zT;by_cases h1:z8 d.name=true
 ·simp[h1]
 rw[if_neg h1,if_neg h1];simp only[not_true,decide_false,za,zt,br_inl,zN,zkg];by_cases h2:d.solve < 0∨9 < d.solve
 ·rw[if_pos h2];rcases h2 with h2 | h2
  ·simp[h2]
  ·by_cases fL:d.solve < 0<;>simp[h2,fL]
 rw[if_neg h2];have oP:¬ d.solve < 0:=fun h=>h2 (.inl h);have oO:¬ 9 < d.solve:=fun h=>h2 (.inr h);simp only[oP,oO,if_false,decide_false,za];by_cases h3:12 < d.members.length
 ·have:(12:Int) < ((d.members.length:Nat):Int):=by omega
  simp[h3,this]
 have gq:¬ (12:Int) < ((d.members.length:Nat):Int):=by omega
 rw[if_neg h3];simp only[gq,decide_false,za];by_cases h4:d.members=[]
 ·simp[h4]
 have lK:¬ ((d.members.length:Nat):Int)=0:=(by intro h;exact h4 (Az.1 (by omega)));rw[if_neg h4];simp only[lK,decide_false,za];have hlen:d.members.length<=9223372036854775807:=by omega
 have:=jl (B:=zkn P96 P97 d) d.members.length (fun i=>match d.members[i]? with
  | some m=>if jF d.members i m=0 then none else some ((i:Int),jF d.members i m)
  | none=>none) (fun i hi=>by
   have e:((i:Nat):Int) < ((d.members.length:Nat):Int):=by omega
   have hm:=Aa hi;generalize d.members[i]=m at hm;have hw:=where_lt hm;simp only[zkn,e,decide_true,zg,zb,hm,zk,P97_eq,P96_eq d _ hlen];rw[zJ (by omega) (by omega)];unfold jF;by_cases c1:z8 m.name=true
   ·simp[c1]
   simp only[c1,if_false,not_true,decide_false,za];by_cases c2:((d.members.take i).any fun x=>decide (x.name=m.name))=true
   ·have:=hw.2 c2;simp[this,c2]
   have fM:¬ qy d.members m.name < i:=fun h=>c2 (hw.1 h);simp only[c2,fM,if_false,decide_false,za];by_cases c3:m.parent < -1∨(i:Int)<=m.parent
   ·rw[if_pos c3];rcases c3 with c3 | c3
    ·simp[c3]
    ·by_cases iU:m.parent < -1<;>simp[c3,iU]
   rw[if_neg c3];have c3a:¬ m.parent < -1:=fun h=>c3 (.inl h);have c3b:¬ (i:Int)<=m.parent:=fun h=>c3 (.inr h);simp only[c3a,c3b,decide_false,za,zt,zN];have h4:jn (σ:=Bool) (α:=LR Int (Int×Int)) (br (decide ((0:Int)<=(Member.parent m))) (bno (zo d.members (Member.parent m)) fun y5=>some (.inl (decide (¬ (Member.formula y5)=(⟨#[]⟩:ByteArray))))) (some (.inl false)))=fun k=>k (decide (0<=m.parent∧eF d.members m.parent=true)):=by
    funext k;by_cases h:0<=m.parent
    ·have hb:m.parent < d.members.length:=by omega
     have hh:eF d.members m.parent=decide (¬ (d.members[m.parent.toNat]'(by omega)).formula=⟨#[]⟩):=(by unfold eF;rw[Aa (by omega)]);rw[zbK h hb];simp[h,hh]
    ·simp[h]
   rw[h4];by_cases h5:0<=m.parent∧eF d.members m.parent=true
   ·rw[if_pos h5];simp[h5]
   rw[if_neg h5];simp only[h5,decide_false,za];by_cases h6:m.sign < -1∨1 < m.sign
   ·rw[if_pos h6];rcases h6 with h6 | h6
    ·simp[h6]
    ·by_cases oL:m.sign < -1<;>simp[h6,oL]
   rw[if_neg h6];have oI:¬ m.sign < -1:=fun h=>h6 (.inl h);have oH:¬ 1 < m.sign:=fun h=>h6 (.inr h);simp only[oI,oH,decide_false,za,zt,zN];by_cases h7:100 < m.formula.size
   ·have:(100:Int) < ((m.formula.size:Nat):Int):=by omega
    simp[h7,this]
   ·have:¬ (100:Int) < ((m.formula.size:Nat):Int):=by omega
    simp[h7,this]) (by simp[zkn])
 unfold lp;rw[this];have e2:((List.range d.members.length).findSome? fun i=>match d.members[i]? with
  | some m=>if jF d.members i m=0 then none else some ((i:Int),jF d.members i m)
  | none=>none)=zbe d.members:=rfl
 rw[e2];cases zbe d.members with
 | none=>simp
 | some r=>rfl
def P106_eq (o:List Dim) (h:o.length<=9223372036854775807):P106 o=some (eX o):=by
 have hs:=zU (B:=zeU o) (fun i=>((o.take i).foldl (fun n d=>wi (n * ((d.members.length:Nat):Int))) 1,(i:Int))) o.length (fun i hi=>by
  have e:((i:Nat):Int) < ((o.length:Nat):Int):=by omega
  simp only[zeU,e,decide_true,zg,zb,Aa hi,zk,qR];rw[zJ (n:=(i:Int)+1) (by omega) (by omega),zar _ _ _ (Aa hi)];rfl)
 simp only[BU,CW,BI] at hs;have hs:lpO (zeU o) (1,0)=some (.inl (eX o,(o.length:Int))):=hs.trans (zD (by simp[zeU,eX]));simp only[P106,S106,zO,hs,zN]
def P94_eq (o:List Dim):P94 o=some (qQ o):=by
 simp only[P94,S94];unfold qQ;by_cases h1:4 < o.length
 ·have:(4:Int) < ((o.length:Nat):Int):=by omega
  simp[h1,this]
 have iS:¬ (4:Int) < ((o.length:Nat):Int):=by omega
 rw[if_neg h1];simp only[iS,decide_false,za];by_cases h2:o=[]
 ·simp[h2]
 have fL:¬ ((o.length:Nat):Int)=0:=fun h=>h2 (Az.1 (by omega));rw[if_neg h2];simp only[fL,decide_false,za]
 -- the names ahead
 have names:∀ (i:Nat) (d:Dim),o[i]? = some d->∀ (j:Nat),j<=i->∃ k:Int,lpO (zeE o (i:Int)) (if jX (o.take j) d=true then 7 else 0,(j:Int))=some (.inl (if jX (o.take i) d=true then 7 else 0,k)):=by
  intro i d hi j hj;have ae:=(Ac.1 hi).1
  induction h:i - j generalizing j with
  | zero =>
   obtain rfl:j=i:=by omega
   refine ⟨(j:Int), ?_⟩;rw[zD (y:=(if jX (o.take j) d=true then 7 else 0,(j:Int)))]
   simp[zeE]
  | succ n ih =>
   have cM:j < o.length:=by omega
   have bB:=Aa cM;have iD:((j:Nat):Int) < ((i:Nat):Int):=by omega
   have nj:jX (o.take (j+1)) d=(jX (o.take j) d || decide (o[j].name=d.name)):=(by unfold jX;rw[B2 cM,List.any_append];simp);by_cases hb:jX (o.take j) d=true
   ·refine ⟨(j:Int), ?_⟩;have hbi:jX (o.take i) d=true:=(by unfold jX at hb ⊢;rw[B6] at hb ⊢;obtain ⟨x,hx,hn⟩:=hb;refine ⟨x, ?_,hn⟩;rw[BL] at hx ⊢;obtain ⟨q,hq,rfl⟩:=hx;exact ⟨q,by omega,rfl⟩);rw[if_pos hb,if_pos hbi,zD (y:=(7,(j:Int)))];simp[zeE]
   ·rw[if_neg hb];obtain ⟨k,hk⟩:=ih (j+1) (by omega) (by omega);refine ⟨k, ?_⟩;rw[z6 (y:=(if jX (o.take (j+1)) d=true then 7 else 0,((j+1:Nat):Int)))]
    ·exact hk
    ·simp only[zeE,iD,decide_true,zg,zt,zN,zb,bB,hi,zk,nj];rw[zJ (by omega) (by omega)];have aA:jX (o.take j) d=false:=by simpa using hb
     by_cases hn:o[j].name=d.name<;>simp[hn,aA]
 have:=jl (B:=zko P95 o) o.length (fun i=>match o[i]? with
  | some d=>if (zT d).2=0 then (if jX (o.take i) d=true then some ((i:Int),(zT d).1,7) else none) else some ((i:Int),(zT d).1,(zT d).2)
  | none=>none) (fun i hi=>by
   have e:((i:Nat):Int) < ((o.length:Nat):Int):=by omega
   have hd:=Aa hi;simp only[zko,e,decide_true,zg,zb,hd,zk,P95_eq,zO];rw[zJ (by omega) (by omega)];by_cases h:(zT o[i]).2=0
   ·obtain ⟨k,hk⟩:=names i _ hd 0 (BG _);have e0:jX (o.take 0) o[i]=false:=rfl;rw[e0] at hk;simp only[Ap,if_false] at hk;have ay:lpO (zeE o (i:Int)) (0,0)=some (.inl (if jX (o.take i) o[i]=true then 7 else 0,k)):=hk
    simp only[h,ay,zN];cases hb:jX (o.take i) o[i]<;>simp
   ·rw[zD (y:=((zT o[i]).2,0)) (by
     have hb:decide ((zT o[i]).2=0)=false:=by simpa using h
     simp only[zeE,hb,zt,br_inl,zN];cases decide ((0:Int) < (i:Int))<;>simp)]
    simp[h]) (by simp[zko])
 unfold lp;rw[this];have e2:((List.range o.length).findSome? fun i=>match o[i]? with
  | some d=>if (zT d).2=0 then (if jX (o.take i) d=true then some ((i:Int),(zT d).1,7) else none) else some ((i:Int),(zT d).1,(zT d).2)
  | none=>none)=zbm o:=rfl
 rw[e2];cases zbm o with
 | none =>simp only[zN,P106_eq o (by omega),zk];by_cases h3:3000 < eX o<;>simp[h3]
 | some r=>rfl
end
section
def within (n:Int):Bool:=decide (-1000000000000<=n) && decide (n<=1000000000000)
def ku (n:Int):Cell:=if within n then ⟨1,n⟩ else ⟨2,0⟩
def cplus (a b:Cell) (s:Int):Cell:=if a.k=2∨b.k=2 then ⟨2,0⟩ else if a.k=0∧b.k=0 then ⟨0,0⟩ else ku (wi (a.n+wi (s * b.n)))
def zgz (c:Cell):Prop:=c.k < 0∨2 < c.k∨within c.n=false∨(¬ c.k=1∧¬ c.n=0)
instance (c : Cell) : Decidable (zgz c) := by unfold zgz; infer_instance
def zkf (a b:Cell):Cell:=if a.k=2∨b.k=2 then ⟨2,0⟩ else if a.k=0∨b.k=0 then ⟨0,0⟩ else if ¬ a.n=0∧wi (Int.tdiv 1000000000000 (maxT a.n (wi (-a.n)))) < maxT b.n (wi (-b.n)) then ⟨2,0⟩ else ku (wi (a.n * b.n))
def cover (a b:Cell):Cell:=if a.k=2∨b.k=2 then ⟨2,0⟩ else if a.k=0∨b.k=0 then ⟨0,0⟩ else if b.n=0 then ⟨2,0⟩ else ku (wi (Int.tdiv a.n b.n))
@[simp] def P30_eq (n:Int):P30 n=some (within n):=by simp[P30,S30,within]
@[simp] def P8_eq (n:Int):P8 n=some (ku n):=by simp[P8,S8,ku];cases within n<;>rfl
@[simp] def P33_eq (a b:Cell) (s:Int):P33 a b s=some (cplus a b s):=by
 simp[P33,S33,cplus,br_eq]
 repeat' split
 all_goals first | rfl | (simp_all;done)
@[simp] def P52_eq (c:Cell):P52 c=some (if zgz c then .no 1 else .nil):=by
 by_cases h1:c.k < 0
 ·simp[P52,S52,zgz,h1]
 by_cases h2:2 < c.k
 ·simp[P52,S52,zgz,h2]
 by_cases h3:within c.n=true
 ·by_cases h4:c.k=1
  ·simp[P52,S52,zgz,h3,h4]
  ·have e:br (decide (¬ c.n=0)) (some (Err.no 1)) (some Err.nil)=some (if ¬ c.n=0 then Err.no 1 else Err.nil):=by rw[zE];split<;>rfl
   simp[P52,S52,zgz,h1,h2,h3,h4];by_cases h5:c.n=0
   ·simp[h5]
   ·simp[h5]
 ·simp[P52,S52,zgz,h1,h2,h3]
@[simp] def P62_eq (n:Int):P62 n=some (maxT n (wi (-n))):=by simp[P62,S62]
def size_eq {n:Int} (h:within n=true):maxT n (wi (-n))=if n < 0 then -n else n:=by
 simp only[within,An,decide_eq_true_eq] at h;rw[zJ (by omega) (by omega)];unfold maxT
 split<;>split<;>omega
def P34_eq {a:Cell} (b:Cell) (ha:within a.n=true):P34 a b=some (zkf a b):=by
 by_cases h:a.n=0
 ·simp[P34,S34,zkf,br_eq,h]
  repeat' split
  all_goals first | rfl | (simp_all;done)
 ·have h':¬ maxT a.n (wi (-a.n))=0:=by rw[size_eq ha];split<;>omega
  simp[P34,S34,zkf,br_eq,h,h']
  repeat' split
  all_goals first | rfl | (simp_all;done)
@[simp] def P35_eq (a b:Cell):P35 a b=some (cover a b):=by
 by_cases h:b.n=0
 ·simp[P35,S35,cover,br_eq,h]
  repeat' split
  all_goals first | rfl | (simp_all;done)
 ·simp[P35,S35,cover,br_eq,h]
  repeat' split
  all_goals first | rfl | (simp_all;done)
def gu (a b c:Cell):Cell×Err:=if zgz a∨zgz b then (⟨0,0⟩,.no 1) else (c,.nil)
@[simp] def P9_eq (a b:Cell):P9 a b=some (gu a b (cplus a b 1)):=by by_cases h1:zgz a<;>by_cases h2:zgz b<;>simp[P9,S9,P31_32,S31_32,P32,S32,gu,h1,h2]
@[simp] def P12_eq (a b:Cell):P12 a b=some (gu a b (cplus a b (-1))):=by by_cases h1:zgz a<;>by_cases h2:zgz b<;>simp[P12,S12,P31_36,S31_36,P36,S36,gu,h1,h2]
@[simp] def P10_eq (a b:Cell):P10 a b=some (gu a b (zkf a b)):=by by_cases h1:zgz a<;>by_cases h2:zgz b<;>simp[P10,S10,P31_34,S31_34,gu,h1,h2];rw[P34_eq b (by simp only[zgz,not_or] at h1;simpa using h1.2.2.1)];rfl
@[simp] def P11_eq (a b:Cell):P11 a b=some (gu a b (cover a b)):=by by_cases h1:zgz a<;>by_cases h2:zgz b<;>simp[P11,S11,P31_35,S31_35,gu,h1,h2]
end
section
end
section
end
end Ab
