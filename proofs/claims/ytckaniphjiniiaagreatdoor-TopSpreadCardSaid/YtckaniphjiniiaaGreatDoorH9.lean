import Derived.Test.YtckaniphjiniiaaGreatDoorHF
set_option linter.all false
namespace Ab
open Go
section
def n4 {x y:Int}:x<=y↔x<y∨x=y:=by omega
def zi7 (zs:List Int) (hz:zs.Pairwise (·<=·)):∀m,m<=zs.length->(Lib.compactUpTo zs.toArray m).Pairwise (· < ·)∧(∀x,x∈Lib.compactUpTo zs.toArray m↔x∈zs.take m)∧∀k y,m=k+1->zs[k]? = some y->∀x∈Lib.compactUpTo zs.toArray m,x<=y:=by
 intro m
 induction m with
 | zero=>intro _;exact⟨by simp[Lib.compactUpTo],by simp[Lib.compactUpTo],fun k y e=>by omega⟩
 | succ m ih =>
  intro hm;obtain⟨i1,i2,i3⟩:=ih (by omega);have hg:zs[m]? = some zs[m]:=Aa (by omega);have e1:zs.toArray[m]! = zs[m]:=by simp[getElem!_pos,show m<zs.length by omega]
  have ht:zs.take (m+1)=zs.take m++[zs[m]]:=by rw[BL,hg];rfl
  rw[Lib.compactUpTo_succ,e1];by_cases hk:Lib.keeps zs.toArray m=true
  ·rw[if_pos hk];have aj:∀x∈Lib.compactUpTo zs.toArray m,x<zs[m]:=by
    intro x hx;cases m with
    | zero=>simp[Lib.compactUpTo] at hx
    | succ k =>
     have h1:=i3 k zs[k] rfl (Aa (by omega)) x hx;have h2:zs[k]<=zs[k+1]:=(Cw.1 hz) k (k+1) (by omega) (by omega) (by omega);have e2:zs.toArray[k]! = zs[k]:=by simp[getElem!_pos,show k<zs.length by omega]
     have h3:zs[k+1]≠zs[k]:=by
      unfold Lib.keeps at hk;have:=of_decide_eq_true hk;rcases this with h|h
      ·omega
      ·rw[Cm,e2,e1] at h;exact h
     rcases n4.1 h2 with h2|h2
     ·rcases n4.1 h1 with h1|rfl
      ·exact Int.lt_trans h1 h2
      ·exact h2
     ·exact absurd h2.symm h3
   refine⟨BD.2 ⟨i1,by simp,fun x hx y hy => ?_⟩,fun x => ?_,fun k y e hy x hx => ?_⟩
   ·obtain rfl:=Ah.1 hy;exact aj x hx
   ·rw[ht,Aj,Aj,i2]
   ·obtain rfl:k=m:=by omega
    rw[hg] at hy;cases hy;rcases Aj.1 hx with hx|hx
    ·exact n4.2 (.inl (aj x hx))
    ·obtain rfl:=Ah.1 hx;exact C4 _
  ·rw[if_neg hk,Bl];cases m with
   | zero=>exact absurd (Lib.keeps_lt_one _ 0 (by omega)) hk
   | succ k =>
    have e2:zs.toArray[k]! = zs[k]:=by simp[getElem!_pos,show k<zs.length by omega]
    have h3:zs[k+1]=zs[k]:=(by unfold Lib.keeps at hk;have h:=hk;rw[decide_eq_true_eq] at h;have h:=not_or.1 h;have:=Decidable.not_not.1 h.2;rw[Cm,e2,e1] at this;exact this);refine⟨i1,fun x => ?_,fun k' y e hy x hx => ?_⟩
    ·rw[ht,Aj,i2,Ah];refine⟨.inl,fun h => ?_⟩;rcases h with h|rfl
     ·exact h
     ·rw[h3];exact C0.2 ⟨k,by omega,rfl⟩
    ·obtain rfl:k'=k+1:=by omega
     rw[hg] at hy;cases hy;rw[h3];exact i3 k zs[k] rfl (Aa (by omega)) x hx
def zjF (l:List Int):(l.mergeSort fun x y=>decide (x<=y)).Pairwise (·<=·):=by have h:=List.pairwise_mergeSort (le:=fun (x y:Int)=>decide (x<=y)) (fun a b c h1 h2=>by simp only[decide_eq_true_eq] at *;exact Dh h1 h2) (fun a b=>by simp only[B5,decide_eq_true_eq];exact Int.le_total a b) l;exact h.imp fun h=>by simpa using h
def setI (l:List Int):List Int:=gE (fD l)
def zgA (l:List Int):(setI l).Pairwise (· < ·)∧∀x,x∈setI l↔x∈l:=by obtain⟨h1,h2,_⟩:=zi7 _ (zjF l) _ (Az _);unfold setI gE Lib.compact;refine⟨h1,fun x => ?_⟩;rw[show (fD l).length=(l.mergeSort fun x y=>decide (x<=y)).length from rfl];show x∈Lib.compactUpTo (l.mergeSort fun x y=>decide (x<=y)).toArray (l.mergeSort fun x y=>decide (x<=y)).length↔_;rw[h2,BA];exact (List.mergeSort_perm _ _).mem_iff
end
section
def upP (l:List Member):Nat->Int->List Int
 | 0,_=>[]
 | f+1,i=>if i<0 then [] else match l[i.toNat]? with|some m=>i::upP l f m.parent|none=>[]
structure Rooted (l:List Member):Prop where
 up:∀(i:Nat) (m:Member),l[i]? = some m -> -1<=m.parent∧m.parent<i
 sign:∀(i:Nat) (m:Member),l[i]? = some m -> -1<=m.sign∧m.sign<=1
 form:∀(i:Nat) (m:Member),l[i]? = some m->0<=m.parent->hasF l m.parent=false
def zet {l:List Member} {i:Nat} {m:Member} (h:wT l i m=0):qg m.name=false∧((l.take i).any fun x=>decide (x.name=m.name))=false∧(-1<=m.parent∧m.parent<i)∧(0<=m.parent->hasF l m.parent=false)∧(-1<=m.sign∧m.sign<=1)∧m.formula.size<=100:=by
 unfold wT at h;by_cases h1:qg m.name=true
 ·rw[if_pos h1] at h;cases h
 rw[if_neg h1] at h;by_cases h2:((l.take i).any fun x=>decide (x.name=m.name))=true
 ·rw[if_pos h2] at h;cases h
 rw[if_neg h2] at h;by_cases h3:m.parent < -1∨(i:Int)<=m.parent
 ·rw[if_pos h3] at h;cases h
 rw[if_neg h3] at h;by_cases h4:0<=m.parent∧hasF l m.parent=true
 ·rw[if_pos h4] at h;cases h
 rw[if_neg h4] at h;by_cases h5:m.sign < -1∨1<m.sign
 ·rw[if_pos h5] at h;cases h
 rw[if_neg h5] at h;by_cases h6:100<m.formula.size
 ·rw[if_pos h6] at h;cases h
 refine⟨by simpa using h1,by simpa using h2,by omega,fun hp => ?_,by omega,by omega⟩;cases hf:hasF l m.parent with
 | false=>rfl
 | true=>exact absurd ⟨hp,hf⟩ h4
def DimOk.rooted {d:Dim} (h:DimOk d):Rooted d.members :=
 ⟨fun i m hi=>(zet (h.mem i m hi)).2.2.1,fun i m hi=>(zet (h.mem i m hi)).2.2.2.2.1,fun i m hi=>(zet (h.mem i m hi)).2.2.2.1⟩
def upP_fuel {l:List Member} (h:Rooted l):∀(f:Nat) (i:Int) (g:Nat),i<f->i<g->upP l f i=upP l g i:=by
 intro f
 induction f with
 | zero =>
  intro i g h1 h2;cases g with
  | zero=>rfl
  | succ g=>simp only[upP];rw[if_pos (by omega)]
 | succ f ih =>
  intro i g h1 h2;by_cases hi:i<0
  ·cases g with
   | zero=>simp only[upP];rw[if_pos hi]
   | succ g=>simp only[upP];rw[if_pos hi,if_pos hi]
  ·cases g with
   | zero=>omega
   | succ g =>
    simp only[upP];rw[if_neg hi,if_neg hi];cases hm:l[i.toNat]? with
    | none=>rfl
    | some m =>have:=h.up _ _ hm;simp only;rw[ih m.parent g (by omega) (by omega)]
def path (l:List Member) (i:Int):List Int:=upP l (i.toNat+1) i
def zad {l:List Member} {i:Int} (hi:i<0):path l i=[]:=by unfold path upP;rw[if_pos hi]
def zaz {l:List Member} (h:Rooted l) {i:Nat} {m:Member} (hi:l[i]? = some m):path l i=(i:Int)::path l m.parent:=by have hu:=h.up _ _ hi;have e:path l (i:Int)=(i:Int)::upP l i m.parent:=(by unfold path;rw[Ap];simp only[upP,Ap,hi];rw[if_neg (by omega)]);rw[e];unfold path;rw[upP_fuel h i m.parent (m.parent.toNat+1) (by omega) (by omega)]
def path_len {l:List Member} (h:Rooted l):∀(n i:Nat),i<=n->i<l.length->(path l i).length<=i+1:=by
 intro n
 induction n with
 | zero =>intro i hi hl;rw[zaz h (Aa hl)];have:=h.up _ _ (Aa hl);rw[zad (by omega)];simp
 | succ n ih =>
  intro i hi hl;rw[zaz h (Aa hl)];have:=h.up _ _ (Aa hl);by_cases hp:(l[i]).parent<0
  ·rw[zad hp];simp
  ·obtain⟨k,hk⟩:=Bk (by omega:0<=(l[i]).parent);rw[hk] at this ⊢;have:=ih k (by omega) (by omega);simp;omega
def up_loop {d:Dim} (h:Rooted d.members) (hl:d.members.length<=1000):∀(n i:Nat),i<=n->i<d.members.length->∀acc:List Int,acc.length+i<=2000->lpO (zff d) ((i:Int),acc)=some (.inl (-1,acc++path d.members i)):=by
 have room:∀k:Nat,k<=3000->k<=zC:=fun k hk=>by unfold zC;omega
 intro n
 induction n with
 | zero =>
  intro i hi aj acc ha;obtain rfl:i=0:=by omega
  have hm:=Aa aj;have hu:=h.up _ _ hm;have hp:(d.members[0]).parent = -1:=by omega
  rw[zaz h hm,zad (by omega),qh (y:=(-1,acc++[0])),zF (y:=(-1,acc++[0]))]
  ·rfl
  ·simp[zff]
  ·have hr:=room (acc.length+1) (by omega);have eO:zu d.members 0=some d.members[0]:=zg (xs:=d.members) 0▸hm;simp[zff,hr,eO,hp]
 | succ n ih =>
  intro i hi aj acc ha;have hm:=Aa aj;have hu:=h.up _ _ hm;have hr:=room (acc.length+1) (by omega);have iQ:zff d ((i:Int),acc)=some (.nx ((d.members[i]).parent,acc++[(i:Int)])):=by
   have:(0:Int)<=(i:Int):=by omega
   simp[zff,hr,zg,hm,this]
  rw[zaz h hm,qh iQ];by_cases hp:(d.members[i]).parent<0
  ·have e:(d.members[i]).parent = -1:=by omega
   rw[zad hp,e,zF (y:=(-1,acc++[(i:Int)])) (by simp[zff])]
  ·obtain⟨k,hk⟩:=Bk (by omega:0<=(d.members[i]).parent);rw[hk] at hu ⊢;rw[ih k (by omega) (by omega) (acc++[(i:Int)]) (by simp;omega)];simp
def P48_eq {d:Dim} (h:Rooted d.members) (hl:d.members.length<=1000) {i:Nat} (hi:i<d.members.length):P48 d i=some (path d.members i):=by simp only[P48,S48,zW];rw[up_loop h hl i i (Az _) hi [] (by simp;omega)];simp
def zlm (p:Nat->Bool) (n:Nat):List Int:=((List.range n).filter p).map fun (k:Nat)=>(k:Int)
def idxs_succ (p:Nat->Bool) (n:Nat):zlm p (n+1)=match p n with|true=>zlm p n++[(n:Int)]|false=>zlm p n:=by unfold zlm;rw[Cb,CW];cases h:p n<;>simp[h]
def zaZ (p:Nat->Bool) (n:Nat):(zlm p n).length<=n:=by unfold zlm;rw[Aq];have:=BR p (List.range n);simpa using this
def zgZ {p:Nat->Bool} {n:Nat} {x:Int}:x∈zlm p n↔∃k:Nat,x=k∧k<n∧p k=true:=by unfold zlm;simp only[Al,BH,AR];exact⟨fun⟨k,⟨h1,h2⟩,h3⟩=>⟨k,h3.symm,h1,h2⟩,fun⟨k,h1,h2,h3⟩=>⟨k,⟨h2,h3⟩,h1.symm⟩⟩
def ziJ {α:Type} {B:(List Int×Int)->Option (LR (List Int×Int) α)} (p:Nat->Bool) (n:Nat) (h:∀(i:Nat) (acc:List Int),i<n->acc.length<=i->B (acc,(i:Int))=some (.nx (match p i with|true=>acc++[(i:Int)]|false=>acc,(i:Int)+1))) (hn:∀acc,B (acc,(n:Int))=some (.dn (acc,(n:Int)))) :
  lpO B ([],0)=some (.inl (zlm p n,(n:Int))):=by
 have:=(zP (B:=B) (fun i=>(zlm p i,(i:Int))) n fun i hi=>by
  rw[h i _ hi (zaZ p i),idxs_succ];rfl).trans (zF (hn _))
 exact this
def zez (l:List Member) (i:Int) (k:Nat):Bool:=match l[k]? with|some m=>decide (m.parent=i)|none=>false
def partsOf (l:List Member) (i:Int):List Int:=zlm (zez l i) l.length
def P47_eq {d:Dim} (hl:d.members.length<=1000) (i:Int):P47 d i=some (partsOf d.members i):=by
 simp only[P47,S47,zW];rw[ziJ (zez d.members i) d.members.length (fun k acc hk ha => ?_) (fun acc=>by simp[S47_L1])]
 ·rfl
 ·have e:((k:Nat):Int)<((d.members.length:Nat):Int):=by omega
  have hr:acc.length+1<=zC:=by unfold zC;omega
  simp only[S47_L1,e,decide_true,ze,zg,Aa hk,zj,zez,Bj,zm hr,zx,ji];rw[zR (by omega) (by omega)];by_cases h:(d.members[k]).parent=i<;>simp[h]
def yi (l:List Member) (k:Nat):Bool:=match l[k]? with|some m=>decide (m.formula=⟨#[]⟩) && decide (partsOf l k=[])|none=>false
def P44_eq {d:Dim} (hl:d.members.length<=1000) {k:Nat} (hk:k<d.members.length):P44 d k=some (yi d.members k):=by have e:decide (((List.length (partsOf d.members k):Nat):Int)=0)=decide (partsOf d.members k=[]):=(by congr 1;rw[←AN];exact propext ⟨fun h=>by omega,fun h=>by omega⟩);simp only[P44,S44,zg,Aa hk,zj,P47_eq hl,yi,e];by_cases h:(d.members[k]).formula=⟨#[]⟩<;>simp[h]
def sgn (l:List Member) (x:Int):Int:=match l[x.toNat]? with|some m=>m.sign|none=>0
def wl (l:List Member) (i:Int):List Int->Option Int
 | []=>none
 | x::r=>if x=i then some 1 else (wl l i r).map fun v=>sgn l x*v
def zeq {w s:Int} (hw : -1<=w∧w<=1) (hs : -1<=s∧s<=1) : -1<=w*s∧w*s<=1:=by rcases (by omega:w = -1∨w=0∨w=1) with rfl|rfl|rfl<;>constructor<;>omega
def sgn_in {l:List Member} (h:Rooted l) (x:Int) : -1<=sgn l x∧sgn l x<=1:=by
 unfold sgn;cases hm:l[x.toNat]? with
 | none=>simp
 | some m=>exact h.sign _ _ hm
def wl_in {l:List Member} (h:Rooted l) (i:Int):∀(ys:List Int) (v:Int),wl l i ys=some v -> -1<=v∧v<=1:=by
 intro ys
 induction ys with
 | nil=>intro v hv;cases hv
 | cons x r ih =>
  intro v hv;simp only[wl] at hv;split at hv
  ·cases hv;omega
  ·cases hr:wl l i r with
   | none=>rw[hr] at hv;cases hv
   | some u=>rw[hr] at hv;cases hv;exact zeq (sgn_in h x) (ih u hr)
def sn {l:List Member} (h:Rooted l):∀(n k:Nat),k<=n->k<l.length->∀x∈path l k,0<=x∧x<=k:=by
 intro n
 induction n with
 | zero =>intro k hk hl x hx;have hm:=Aa hl;have hu:=h.up _ _ hm;rw[zaz h hm,zad (by omega)] at hx;simp at hx;omega
 | succ n ih =>
  intro k hk hl x hx;have hm:=Aa hl;have hu:=h.up _ _ hm;rw[zaz h hm] at hx;rcases Ar.1 hx with rfl|hx
  ·omega
  ·by_cases hp:(l[k]).parent<0
   ·rw[zad hp] at hx;cases hx
   ·obtain⟨j,hj⟩:=Bk (by omega:0<=(l[k]).parent);rw[hj] at hx hu;have:=ih j (by omega) (by omega) x hx;omega
def wOf (l:List Member) (i:Int) (k:Nat):Int×Bool:=match wl l i (path l k) with|some w=>(w,true)|none=>(0,false)
def w_loop {d:Dim} (h:Rooted d.members) (i:Int) (y1:List Int) (hy:y1.length<=100000) (hv:∀x∈y1,0<=x∧x<d.members.length):∀(ys pre:List Int) (w:Int),y1=pre++ys -> -1<=w->w<=1 ->
  jn (lpO (zgl d i y1) (w,(pre.length:Int))) (fun _=>some ((0:Int),false))=some (match wl d.members i ys with|some v=>(w*v,true)|none=>(0,false)):=by
 intro ys
 induction ys with
 | nil =>intro pre w e h1 h2;subst e;rw[zF (y:=(w,(pre.length:Int))) (by simp[zgl])];rfl
 | cons x r ih =>
  intro pre w e h1 h2;have aj:((pre.length:Nat):Int)<((y1.length:Nat):Int):=by rw[e];simp;omega
  have hx:y1[pre.length]? = some x:=by rw[e];simp
  have bJ:=hv x (by rw[e];simp);simp only[wl];by_cases ny:x=i
  ·rw[if_pos ny,jo (a:=(w,true)) (by simp[zgl,aj,zg,hx,ny])];simp
  ·rw[if_neg ny];have hs:sgn d.members x=(d.members[x.toNat]'(by omega)).sign:=by unfold sgn;rw[Aa (by omega)]
   have hb:=zeq ⟨h1,h2⟩ (sgn_in h x);have iQ:zgl d i y1 (w,(pre.length:Int))=some (.nx (w*sgn d.members x,((pre++[x]).length:Int))):=by
    have hlen:pre.length<y1.length:=by omega
    simp only[zgl,aj,decide_true,ze,zg,hx,zj,ny,decide_false,za,zbZ bJ.1 bJ.2,ji,←hs];rw[zR (n:=w*sgn d.members x) (by omega) (by omega),zR (n:=(pre.length:Int)+1) (by omega) (by omega)];simp
   rw[qh iQ,ih (pre++[x]) _ (by rw[e];simp) hb.1 hb.2];cases wl d.members i r with
   | none=>rfl
   | some v=>simp[DD]
def P45_eq {d:Dim} (h:Rooted d.members) (hl:d.members.length<=1000) (i:Int) {k:Nat} (hk:k<d.members.length):P45 d i k=some (wOf d.members i k):=by simp only[P45,S45,P48_eq h hl hk,zj,zW];have:=w_loop h i (path d.members k) (by have:=path_len h k k (Az _) hk;omega) (fun x hx=>by have:=sn h k k (Az _) hk x hx;omega) (path d.members k) [] 1 rfl (by omega) (by omega);simp only[BI,C3] at this;exact this
def qi (l:List Member) (i:Int):List Int:=zlm (fun k=>(wl l i (path l k)).isSome && yi l k) l.length
def wOf_snd (l:List Member) (i:Int) (k:Nat):(wOf l i k).2=(wl l i (path l k)).isSome:=by unfold wOf;cases wl l i (path l k)<;>rfl
def P46_eq {d:Dim} (h:Rooted d.members) (hl:d.members.length<=1000) (i:Int):P46 d i=some (qi d.members i):=by
 simp only[P46,S46,zW];rw[ziJ (fun k=>(wl d.members i (path d.members k)).isSome && yi d.members k) d.members.length (fun k acc hk ha => ?_) (fun acc=>by simp[S46_L1])]
 ·rfl
 ·have e:((k:Nat):Int)<((d.members.length:Nat):Int):=by omega
  have hr:acc.length+1<=zC:=by unfold zC;omega
  simp only[S46_L1,e,decide_true,ze,P45_eq h hl i hk,zj,wOf_snd,P44_eq hl hk,Bj,zm hr,zx,ji];rw[zR (by omega) (by omega)];cases (wl d.members i (path d.members k)).isSome<;>cases yi d.members k<;>simp
section
variable {d:Dim}
end
end
section
def P97_eq (s:ByteArray):P97 s=some (if qg s=true then 2 else 0):=by
 by_cases h1:s=⟨#[]⟩
 ·subst h1;simp[P97,S97,qg]
 by_cases h2:8<s.size
 ·have:(8:Int)<((s.size:Nat):Int):=by omega
  simp[P97,S97,qg,h1,h2,this]
 have h3:¬(8:Int)<((s.size:Nat):Int):=by omega
 have aF:s.data.toList.length=s.size:=rfl;simp only[P97,S97,h1,h3,decide_false,za,zx,zY];rw[zhz (fun c:UInt8=>decide (c.toNat<97) || decide (122<c.toNat)) s.data.toList 2 0 (fun i y hy => ?_) (by rw[aF];simp[S97_L1])]
 ·simp[qg,h1,h2]
 ·have hi:=(Ac.1 hy).1;have e:((i:Nat):Int)<((s.size:Nat):Int):=by omega
  simp only[S97_L1,e,decide_true,ze,zg,hy,zj];rw[zR (by omega) (by omega)];have e1:((y.toNat:Nat):Int)<97↔y.toNat<97:=by omega
  have e2:122<((y.toNat:Nat):Int)↔122<y.toNat:=by omega
  by_cases c1:y.toNat<97<;>by_cases c2:122<y.toNat<;>simp[e1,e2,c1,c2]
end
section
def within (n:Int):Bool:=decide (-1000000000000<=n) && decide (n<=1000000000000)
def jT (n:Int):Cell:=if within n then ⟨1,n⟩ else ⟨2,0⟩
def zbb (a b:Cell) (s:Int):Cell:=if a.k=2∨b.k=2 then ⟨2,0⟩ else if a.k=0∧b.k=0 then ⟨0,0⟩ else jT (wi (a.n+wi (s*b.n)))
def zhw (c:Cell):Prop:=c.k<0∨2<c.k∨within c.n=false∨(¬c.k=1∧¬c.n=0)
instance (c : Cell) : Decidable (zhw c) := by unfold zhw; infer_instance
def zge (a b:Cell):Cell:=if a.k=2∨b.k=2 then ⟨2,0⟩ else if a.k=0∨b.k=0 then ⟨0,0⟩ else if ¬a.n=0∧wi (Int.tdiv 1000000000000 (maxT a.n (wi (-a.n))))<maxT b.n (wi (-b.n)) then ⟨2,0⟩ else jT (wi (a.n*b.n))
def cover (a b:Cell):Cell:=if a.k=2∨b.k=2 then ⟨2,0⟩ else if a.k=0∨b.k=0 then ⟨0,0⟩ else if b.n=0 then ⟨2,0⟩ else jT (wi (Int.tdiv a.n b.n))
@[simp] def P30_eq (n:Int):P30 n=some (within n):=by simp[P30,S30,within]
@[simp] def P8_eq (n:Int):P8 n=some (jT n):=by simp[P8,S8,jT];cases within n<;>rfl
@[simp] def P33_eq (a b:Cell) (s:Int):P33 a b s=some (zbb a b s):=by
 simp[P33,S33,zbb,br_eq]
 repeat' split
 all_goals first|rfl|(simp_all;done)
@[simp] def P52_eq (c:Cell):P52 c=some (if zhw c then .no 1 else .nil):=by
 by_cases h1:c.k<0
 ·simp[P52,S52,zhw,h1]
 by_cases h2:2<c.k
 ·simp[P52,S52,zhw,h2]
 by_cases h3:within c.n=true
 ·by_cases h4:c.k=1
  ·simp[P52,S52,zhw,h3,h4]
  ·have e:br (decide (¬c.n=0)) (some (Err.no 1)) (some Err.nil)=some (if ¬c.n=0 then Err.no 1 else Err.nil):=by rw[zJ];split<;>rfl
   simp[P52,S52,zhw,h1,h2,h3,h4];by_cases h5:c.n=0
   ·simp[h5]
   ·simp[h5]
 ·simp[P52,S52,zhw,h1,h2,h3]
@[simp] def P62_eq (n:Int):P62 n=some (maxT n (wi (-n))):=by simp[P62,S62]
def size_eq {n:Int} (h:within n=true):maxT n (wi (-n))=if n<0 then -n else n:=by
 simp only[within,Ai,decide_eq_true_eq] at h;rw[zR (by omega) (by omega)];unfold maxT
 split<;>split<;>omega
def P34_eq {a:Cell} (b:Cell) (ha:within a.n=true):P34 a b=some (zge a b):=by
 by_cases h:a.n=0
 ·simp[P34,S34,zge,br_eq,h]
  repeat' split
  all_goals first|rfl|(simp_all;done)
 ·have h':¬maxT a.n (wi (-a.n))=0:=by rw[size_eq ha];split<;>omega
  simp[P34,S34,zge,br_eq,h,h']
  repeat' split
  all_goals first|rfl|(simp_all;done)
@[simp] def P35_eq (a b:Cell):P35 a b=some (cover a b):=by
 by_cases h:b.n=0
 ·simp[P35,S35,cover,br_eq,h]
  repeat' split
  all_goals first|rfl|(simp_all;done)
 ·simp[P35,S35,cover,br_eq,h]
  repeat' split
  all_goals first|rfl|(simp_all;done)
def zja (a b c:Cell):Cell×Err:=if zhw a∨zhw b then (⟨0,0⟩,.no 1) else (c,.nil)
@[simp] def P9_eq (a b:Cell):P9 a b=some (zja a b (zbb a b 1)):=by by_cases h1:zhw a<;>by_cases h2:zhw b<;>simp[P9,S9,P31_32,S31_32,P32,S32,zja,h1,h2]
@[simp] def P12_eq (a b:Cell):P12 a b=some (zja a b (zbb a b (-1))):=by by_cases h1:zhw a<;>by_cases h2:zhw b<;>simp[P12,S12,P31_36,S31_36,P36,S36,zja,h1,h2]
@[simp] def P10_eq (a b:Cell):P10 a b=some (zja a b (zge a b)):=by by_cases h1:zhw a<;>by_cases h2:zhw b<;>simp[P10,S10,P31_34,S31_34,zja,h1,h2];rw[P34_eq b (by simp only[zhw,not_or] at h1;simpa using h1.2.2.1)];rfl
@[simp] def P11_eq (a b:Cell):P11 a b=some (zja a b (cover a b)):=by by_cases h1:zhw a<;>by_cases h2:zhw b<;>simp[P11,S11,P31_35,S31_35,zja,h1,h2]
end
section
end
section
end
end Ab
