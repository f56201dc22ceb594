import Derived.Test.YtkaifdgeigdbhaaGreatDoorHB
import Derived.Test.YtkaifdgeigdbhaaGreatDoorHA
set_option linter.all false
namespace Ab
open Go
section
section
variable {α β σ:Type}
attribute [simp] bnd
@[simp] def zx (x:σ):zt (α:=α) (some x)=some (.inl x):=rfl
@[simp] def inlO_n:zt (α:=α) (none:Option σ)=none:=rfl
@[simp] def inrO_s (x:α):zgt (σ:=σ) (some x)=some (.inr x):=rfl
@[simp] def inrO_n:zgt (σ:=σ) (none:Option α)=none:=rfl
@[simp] def yN (x:σ):nxO (α:=α) (some x)=some (.nx x):=rfl
@[simp] def nxO_n:nxO (α:=α) (none:Option σ)=none:=rfl
@[simp] def dz (x:σ):dnO (α:=α) (some x)=some (.dn x):=rfl
@[simp] def dnO_n:dnO (α:=α) (none:Option σ)=none:=rfl
@[simp] def finO_s (x:α):ya (σ:=σ) (some x)=some (.fin x):=rfl
@[simp] def finO_n:ya (σ:=σ) (none:Option α)=none:=rfl
@[simp] def z8 (x:σ) (k:σ->Option α):jn (some (.inl x)) k=k x:=rfl
@[simp] def jn_r (x:α) (k:σ->Option α):jn (some (.inr x)) k=some x:=rfl
@[simp] def jn_n (k:σ->Option α):jn none k=none:=rfl
@[simp] def zk (x:σ) (k:σ->Option α):bno (some x) k=k x:=rfl
@[simp] def bno_n (k:σ->Option α):bno none k=none:=rfl
@[simp] def zh (x y:Option α):br true x y=x:=rfl
@[simp] def za (x y:Option α):br false x y=y:=rfl
@[simp] def jP (x:Option α):ck true x=x:=rfl
def qn {p:Prop} [Decidable p] (x y:Option α):br (decide p) x y=if p then x else y:=by by_cases h:p<;>simp[h]
def br_eq (b:Bool) (x y:Option α):br b x y=if b=true then x else y:=by cases b<;>rfl
def zy {p:Prop} [Decidable p] (h:p) (x:Option α):ck (decide p) x=x:=by simp[h]
def ziy (B:σ->Option (LR σ α)):∀ (n:Nat) (x:σ) (r:Sum σ α),lpN B n x=some r->∀ m,n<=m->lpN B m x=some r:=by
 intro n
 induction n with
 | zero=>intro x r h;simp[lpN] at h
 | succ n ih =>
  intro x r h m hm;obtain ⟨m,rfl⟩:∃ k,m=k+1:=⟨m - 1,by omega⟩;simp only[lpN] at h ⊢;split at h
  ·rename_i y hy;exact ih y r h m (by omega)
  ·exact h
  ·exact h
  ·cases h
def zix {B:σ->Option (LR σ α)} {n:Nat} {x:σ} {r:Sum σ α} (h:lpN B n x=some r):lpO B x=some r:=by have hx:∃ n,(lpN B n x).isSome=true:=⟨n,by rw[h];rfl⟩;unfold lpO;rw[dif_pos hx];have hc:=Classical.choose_spec hx;obtain ⟨r',bQ⟩:=Option.isSome_iff_exists.1 hc;have a:=ziy B _ _ _ h (max n (Classical.choose hx)) (by omega);have b:=ziy B _ _ _ bQ (max n (Classical.choose hx)) (by omega);rw[bQ,← b,a]
def zhC {B:σ->Option (LR σ α)} {x:σ} {r:Sum σ α} (h:lpO B x=some r):∃ n,lpN B n x=some r:=by
 unfold lpO at h;split at h
 ·exact ⟨_,h⟩
 ·cases h
def lpO_eq (B:σ->Option (LR σ α)) (x:σ):lpO B x=match B x with
  | some (.nx y)=>lpO B y
  | some (.dn y)=>some (.inl y)
  | some (.fin a)=>some (.inr a)
  | none=>none:=by
 cases hb:B x with
 | none =>
  cases h:lpO B x with
  | none=>rfl
  | some r =>
   obtain ⟨n,hn⟩:=zhC h;cases n with
   | zero=>simp[lpN] at hn
   | succ n=>simp[lpN,hb] at hn
 | some z =>
  cases z with
  | dn y=>exact zix (n:=1) (by simp[lpN,hb])
  | fin a=>exact zix (n:=1) (by simp[lpN,hb])
  | nx y =>
   cases h:lpO B x with
   | none =>
    cases h':lpO B y with
    | none=>simp only[h']
    | some r =>obtain ⟨n,hn⟩:=zhC h';have:lpO B x=some r:=zix (n:=n+1) (by simp[lpN,hb,hn]);rw[h] at this;cases this
   | some r =>
    obtain ⟨n,hn⟩:=zhC h;cases n with
    | zero=>simp[lpN] at hn
    | succ n =>simp[lpN,hb] at hn;simp only[zix hn]
def zZ {B:σ->Option (LR σ α)} {x y:σ} (h:B x=some (.nx y)):lpO B x=lpO B y:=by rw[lpO_eq,h]
def zB {B:σ->Option (LR σ α)} {x y:σ} (h:B x=some (.dn y)):lpO B x=some (.inl y):=by rw[lpO_eq,h]
def qL {B:σ->Option (LR σ α)} {x:σ} {a:α} (h:B x=some (.fin a)):lpO B x=some (.inr a):=by rw[lpO_eq,h]
@[simp] def br_inl (b:Bool) (x y:σ):br b (some (Sum.inl x:Sum σ α)) (some (Sum.inl y))=some (Sum.inl (cond b x y)):=by cases b<;>rfl
@[simp] def br_inr (b:Bool) (x y:α):br b (some (Sum.inr x:Sum σ α)) (some (Sum.inr y))=some (Sum.inr (cond b x y)):=by cases b<;>rfl
@[simp] def br_same (b:Bool) (x:Option α):br b x x=x:=by cases b<;>rfl
@[simp] def yO:Err.isNil .nil=true:=rfl
@[simp] def no_isNil (n:Int):Err.isNil (.no n)=false:=rfl
@[simp] def oth_isNil (n:Nat):Err.isNil (.oth n)=false:=rfl
def zi {xs:List β} (i:Nat):zA xs (i:Int)=xs[i]?:=by simp[zA]
def zcn {xs:List β} {i:Int} (h0:0<=i) (h1:i < xs.length):zA xs i=some (xs[i.toNat]'(by omega)):=by unfold zA;rw[if_pos h0,Aa]
def zN {n:Int} (h1 : -9223372036854775808<=n) (h2:n<=9223372036854775807):wi n=n:=by simp[wi,IntKind.wrap,IntKind.bits,IntKind.signed];omega
def qr {B:σ->Option (LR σ α)} (st:Nat->σ):∀ (n:Nat),(∀ i,i < n->B (st i)=some (.nx (st (i+1))))->lpO B (st 0)=lpO B (st n)
 | 0,_=>rfl
 | n+1,h=>by rw[qr st n fun i hi=>h i (by omega),zZ (h n (by omega))]
def yK {B:Int->Option (LR Int α)} (n:Nat) (g:Nat->Option α) (h:∀ i:Nat,i < n->B i=some (match g i with | some r=>.fin r | none=>.nx ((i:Int)+1))) (hn:B n=some (.dn n)) :
  lpO B 0=some (match (List.range n).findSome? g with | some r=>.inr r | none=>.inl (n:Int)):=by
 have all:∀ k,k<=n->lpO B ((n - k:Nat):Int)=some (match (List.range' (n - k) k).findSome? g with | some r=>.inr r | none=>.inl (n:Int)):=by
  intro k
  induction k with
  | zero=>intro _;simpa using zB hn
  | succ k ih =>
   intro hk;have hb:=h (n - (k+1)) (by omega);rw[List.range'_succ,BQ];cases hg:g (n - (k+1)) with
   | some r=>rw[hg] at hb;exact qL hb
   | none =>
    rw[hg] at hb;rw[zZ hb];have e:((n - (k+1):Nat):Int)+1=((n - k:Nat):Int):=by omega
    have e':n - (k+1)+1=n - k:=by omega
    rw[e,e'];exact ih (by omega)
 have:=all n (AJ _);rw[CI] at this;rw[CR];exact this
def idxOf (p:β->Bool) (xs:List β):Int:=match xs.findIdx? p with | some i=>(i:Int) | none => -1
def zcm {B:Int->Option (LR Int α)} (n:Nat) (h:∀ i:Nat,i < n->B (i:Int)=some (.nx ((i:Int)+1))):lpO B 0=lpO B (n:Int) :=
 qr (fun i=>(i:Int)) n fun i hi=>by rw[h i hi];rfl
def kx {B:Int->Option (LR Int Int)} (p:β->Bool) (xs:List β) (h:∀ (i:Nat) (y:β),xs[i]? = some y->B (i:Int)=some (match p y with | true=>.fin (i:Int) | false=>.nx ((i:Int)+1))) (hn:B (xs.length:Int)=some (.dn (xs.length:Int))) :
  lp B 0 (fun _=>some (-1:Int))=some (idxOf p xs):=by
 unfold lp idxOf;cases hf:xs.findIdx? p with
 | none =>rw[zcm xs.length fun i hi => ?_,zB hn];rfl;rw[h i _ (Aa hi)];have:=Cy.1 hf _ (AO hi);rw[this]
 | some k =>obtain ⟨hk,h1,h2⟩:=BJ.1 hf;have hb:=h k _ (Aa hk);rw[h1] at hb;rw[zcm k fun i hi => ?_,qL hb];rfl;rw[h i _ (Aa (by omega))];have:=h2 i hi;simp only[B5] at this;rw[this]
def zfr {B:Int->Option (LR Int α)} (p:β->Bool) (xs:List β) (r e:α) (h:∀ (i:Nat) (y:β),xs[i]? = some y->B (i:Int)=some (match p y with | true=>.fin r | false=>.nx ((i:Int)+1))) (hn:B (xs.length:Int)=some (.dn (xs.length:Int))) :
  lp B 0 (fun _=>some e)=some (if xs.any p=true then r else e):=by
 unfold lp;cases hf:xs.findIdx? p with
 | none =>
  have hall:=Cy.1 hf;have:xs.any p=false:=by simp only[Cd];intro x hx;rw[hall x hx];simp
  rw[zcm xs.length fun i hi => ?_,zB hn,this];rfl;rw[h i _ (Aa hi),hall _ (AO hi)]
 | some k =>obtain ⟨hk,h1,h2⟩:=BJ.1 hf;have hb:=h k _ (Aa hk);rw[h1] at hb;have:xs.any p=true:=BU.2 ⟨_,AO hk,h1⟩;rw[zcm k fun i hi => ?_,qL hb,this];rfl;rw[h i _ (Aa (by omega))];have:=h2 i hi;simp only[B5] at this;rw[this]
def zgy {p:β->Bool} {xs:List β}:idxOf p xs < 0↔xs.any p=false:=by
 unfold idxOf;cases hf:xs.findIdx? p with
 | none =>have:=Cy.1 hf;simp only[Cd];exact ⟨fun _ x hx=>by rw[this x hx];simp,fun _=>by omega⟩
 | some k =>obtain ⟨hk,h1,h2⟩:=BJ.1 hf;simp only[Cd];exact ⟨fun h=>by omega,fun h=>absurd h1 (h _ (AO hk))⟩
def qm {γ:Type} (f:γ->Option α) (g:α->β) (l:List γ):l.findSome? (fun a=>(f a).map g)=(l.findSome? f).map g:=by
 induction l with
 | nil=>rfl
 | cons a l ih=>rw[BQ,BQ];cases f a with | none=>simpa using ih | some y=>rfl
def ky {γ:Type} (f:σ->γ->σ) (s:σ) (l:List γ) {i:Nat} {a:γ} (h:l[i]? = some a):(l.take (i+1)).foldl f s=f ((l.take i).foldl f s) a:=by obtain ⟨hi,rfl⟩:=Ac.1 h;rw[Ca hi,List.foldl_append];rfl
def qe (B:σ->Option (LR σ α)) (x:σ) (k:σ->Option α):lp B x k=jn (lpO B x) k:=rfl
@[simp] def cond_dec {p:Prop} [Decidable p] (x y:σ):cond (decide p) x y=if p then x else y:=by by_cases h:p<;>simp[h]
end
end
section
def zR (s:ByteArray):Bool:=decide (s=⟨#[]⟩) || (decide (8 < s.size) || s.data.toList.any fun c=>decide (c.toNat < 97) || decide (122 < c.toNat))
def zm (e:Int):Err:=if e=0 then .nil else .no e
def P67_eq (n:Int):P67 n=some (decide (n < 97) || decide (122 < n)):=by simp[P67,S67]
def P75_eq (l:List UInt8) (h:l.length<=9223372036854775807):P75_67 l=some (idxOf (fun c=>decide (c.toNat < 97) || decide (122 < c.toNat)) l):=by
 refine kx _ l (fun i y hy => ?_) (by simp[zdA]);have hi:=(Ac.1 hy).1;have e:(((i:Nat):Int) < ((l.length:Nat):Int)):=by omega
 simp only[zdA,zi,hy,zk,P67_eq,e,decide_true,zh];rw[zN (by omega) (by omega)];have e1:((y.toNat:Nat):Int) < 97↔y.toNat < 97:=by omega
 have e2:122 < ((y.toNat:Nat):Int)↔122 < y.toNat:=by omega
 simp only[e1,e2];cases (decide (y.toNat < 97) || decide (122 < y.toNat))<;>rfl
def zfs {β:Type} (p:β->Bool) (l:List β):decide (0<=idxOf p l)=l.any p:=by
 cases h:l.any p with
 | false=>have:=zgy.2 h;simp;omega
 | true =>
  have:¬ idxOf p l < 0:=fun e=>by rw[zgy.1 e] at h;cases h
  simp;omega
def P41_eq (s:ByteArray):P41 s=some (if zR s then .no 2 else .nil):=by
 by_cases h1:s=⟨#[]⟩
 ·subst h1;simp[P41,S41,zR]
 ·by_cases h2:8 < s.size
  ·have:(8:Int) < ((s.size:Nat):Int):=by omega
   simp[P41,S41,zR,h1,h2,this]
  ·have h3:¬ (8:Int) < ((s.size:Nat):Int):=by omega
   have hl:s.data.toList.length<=9223372036854775807:=(by have:s.data.toList.length=s.size:=rfl;omega);simp only[P41,S41,P66_67,S66_67,P75_eq _ hl,h1,h3,decide_false,za,zk,zfs,zx,z8];simp only[zR,h1,h2,decide_false,Bool.false_or];cases (s.data.toList.any fun c=>decide (c.toNat < 97) || decide (122 < c.toNat))<;>rfl
def wm (l:List Member) (s:ByteArray):Int:=idxOf (fun m=>decide (m.name=s)) l
def P37_eq (l:List Member) (s:ByteArray) (h:l.length<=9223372036854775807):P37 l s=some (wm l s):=by
 have:P63_64 l s=some (wm l s):=by
  refine kx _ l (fun i y hy => ?_) (by simp[zdC]);have hi:=(Ac.1 hy).1;have e:(((i:Nat):Int) < ((l.length:Nat):Int)):=by omega
  simp only[zdC,zi,hy,zk,P64,S64,e,decide_true,zh];rw[zN (by omega) (by omega)];cases decide (y.name=s)<;>rfl
 simp[P37,S37,this]
def zeO (l:List Dim) (d:Dim):Bool:=l.any fun x=>decide (x.name=d.name)
def P38_eq (l:List Dim) (d:Dim) (h:l.length<=9223372036854775807):gJ l d=some (zeO l d):=by
 have:P65_39 l d=some (idxOf (fun x=>decide (x.name=d.name)) l):=by
  refine kx _ l (fun i y hy => ?_) (by simp[zdB]);have hi:=(Ac.1 hy).1;have e:(((i:Nat):Int) < ((l.length:Nat):Int)):=by omega
  simp only[zdB,zi,hy,zk,P39,S39,e,decide_true,zh];rw[zN (by omega) (by omega)];cases decide (y.name=d.name)<;>rfl
 simp[gJ,S38_39,this,zfs,zeO]
def hasF (l:List Member) (p:Int):Bool:=match l[p.toNat]? with | some x=>decide (¬ x.formula=⟨#[]⟩) | none=>false
def yP (l:List Member) (i:Nat) (m:Member):Int :=
 if zR m.name=true then 2 else if ((l.take i).any fun x=>decide (x.name=m.name))=true then 7 else if m.parent < -1∨(i:Int)<=m.parent then 1
 else if 0<=m.parent∧hasF l m.parent=true then 6 else if m.sign < -1∨1 < m.sign then 1 else if 100 < m.formula.size then 4 else 0
def zi6 (l:List Member) (s:ByteArray):decide (0<=wm l s)=l.any fun x=>decide (x.name=s):=zfs _ _
def P42_eq {l:List Member} {i:Nat} {m:Member} (hi:l[i]? = some m) (hl:l.length<=9223372036854775807):P42 l i=some (zm (yP l i m)):=by
 have ak:=(Ac.1 hi).1;have cD:(0:Int)<=0∧(0:Int)<=(i:Int)∧(i:Int)<=((l.length:Nat):Int):=by omega
 have dN:List.take (Int.toNat (i:Int) - Int.toNat (0:Int)) (List.drop (Int.toNat (0:Int)) l)=l.take i:=by simp
 have hlen:(l.take i).length<=9223372036854775807:=by simp;omega
 simp only[P42,S42,zi,hi,zk,P41_eq];unfold yP;by_cases h1:zR m.name=true
 ·simp[h1,zm]
 rw[if_neg h1,if_neg h1];simp only[yO,A8,za,zy cD,dN,P37_eq _ _ hlen,zk,zi6];by_cases h2:((l.take i).any fun x=>decide (x.name=m.name))=true
 ·rw[h2,if_pos rfl];rfl
 rw[if_neg h2];simp only[B5] at h2;simp only[h2,za];by_cases h3:m.parent < -1∨(i:Int)<=m.parent
 ·rw[if_pos h3];rcases h3 with h3 | h3
  ·simp[h3,zm]
  ·by_cases gw:m.parent < -1<;>simp[h3,gw,zm]
 rw[if_neg h3];have h3a:¬ m.parent < -1:=fun h=>h3 (.inl h);have h3b:¬ (i:Int)<=m.parent:=fun h=>h3 (.inr h);simp only[h3a,h3b,decide_false,za,zx,z8];have h4:jn (σ:=Bool) (α:=Err) (br (decide ((0:Int)<=(Member.parent m))) (bno (zA l (Member.parent m)) fun y5=>some (.inl (decide (¬ (Member.formula y5)=(⟨#[]⟩:ByteArray))))) (some (.inl false)))=fun k=>k (decide (0<=m.parent∧hasF l m.parent=true)):=by
  funext k;by_cases h:0<=m.parent
  ·have hb:m.parent < l.length:=by omega
   have hh:hasF l m.parent=decide (¬ (l[m.parent.toNat]'(by omega)).formula=⟨#[]⟩):=(by unfold hasF;rw[Aa (by omega)]);rw[zcn h hb];simp[h,hh]
  ·simp[h]
 rw[h4];by_cases h5:0<=m.parent∧hasF l m.parent=true
 ·rw[if_pos h5];simp[h5,zm]
 rw[if_neg h5];simp only[h5,decide_false,za];by_cases h6:m.sign < -1∨1 < m.sign
 ·rw[if_pos h6];rcases h6 with h6 | h6
  ·simp[h6,zm]
  ·by_cases h6':m.sign < -1<;>simp[h6,h6',zm]
 rw[if_neg h6];have h6a:¬ m.sign < -1:=fun h=>h6 (.inl h);have h6b:¬ 1 < m.sign:=fun h=>h6 (.inr h);simp only[h6a,h6b,decide_false,za,zx,z8];by_cases h7:100 < m.formula.size
 ·have:(100:Int) < ((m.formula.size:Nat):Int):=by omega
  simp[h7,this,zm]
 ·have:¬ (100:Int) < ((m.formula.size:Nat):Int):=by omega
  simp[h7,this,zm]
def zcV (l:List Member):Option (Int×Int):=(List.range l.length).findSome? fun i=>match l[i]? with
 | some m=>if yP l i m=0 then none else some ((i:Int),yP l i m)
 | none=>none
def qu (d:Dim):Int×Int :=
 if zR d.name=true then (-1,2) else if d.solve < 0∨9 < d.solve then (-1,1) else if 12 < d.members.length then (-1,4) else if d.members=[] then (-1,5)
 else match zcV d.members with | some r=>r | none=>(-1,0)
def zF {e:Int}:(zm e).isNil=decide (e=0):=by unfold zm;split<;>simp_all
def P15_eq (d:Dim):P15 d=some ((qu d).1,zm (qu d).2):=by
 simp only[P15,S15,P41_eq,zk];unfold qu;by_cases h1:zR d.name=true
 ·simp[h1,zm]
 rw[if_neg h1,if_neg h1];simp only[yO,A8,za,zx,br_inl,z8,cond_dec];by_cases h2:d.solve < 0∨9 < d.solve
 ·rw[if_pos h2];rcases h2 with h2 | h2
  ·simp[h2,zm]
  ·by_cases je:d.solve < 0<;>simp[h2,je,zm]
 rw[if_neg h2];have h2a:¬ d.solve < 0:=fun h=>h2 (.inl h);have h2b:¬ 9 < d.solve:=fun h=>h2 (.inr h);simp only[h2a,h2b,if_false,decide_false,za];by_cases h3:12 < d.members.length
 ·have:(12:Int) < ((d.members.length:Nat):Int):=by omega
  simp[h3,this,zm]
 have gw:¬ (12:Int) < ((d.members.length:Nat):Int):=by omega
 rw[if_neg h3];simp only[gw,decide_false,za];by_cases h4:d.members=[]
 ·simp[h4,zm]
 have mZ:¬ ((d.members.length:Nat):Int)=0:=(by intro h;exact h4 (AE.1 (by omega)));rw[if_neg h4];simp only[mZ,decide_false,za];have:=yK (B:=km P42 d) d.members.length (fun i=>match d.members[i]? with
  | some m=>if yP d.members i m=0 then none else some ((i:Int),zm (yP d.members i m))
  | none=>none) (fun i hi=>by
   have e:((i:Nat):Int) < ((d.members.length:Nat):Int):=by omega
   simp only[km,e,decide_true,zh,P42_eq (Aa hi) (by omega),zk,Aa hi,zF];rw[zN (by omega) (by omega)];by_cases h:yP d.members i d.members[i]=0<;>simp[h]) (by simp[km])
 unfold lp;rw[this];have e2:((List.range d.members.length).findSome? fun i=>match d.members[i]? with
  | some m=>if yP d.members i m=0 then none else some ((i:Int),zm (yP d.members i m))
  | none=>none)=(zcV d.members).map fun r=>(r.1,zm r.2):=by
  unfold zcV;rw[← qm];congr 1;funext i;cases d.members[i]? with
  | none=>rfl
  | some m=>by_cases h:yP d.members i m=0<;>simp[h]
 rw[e2];cases zcV d.members with
 | none=>simp[zm]
 | some r=>rfl
def zfW (o:List Dim):Int:=o.foldl (fun n d=>wi (n * ((d.members.length:Nat):Int))) 1
def P40_eq (o:List Dim) (h:o.length<=9223372036854775807):P40 o=some (zfW o):=by
 have hs:=qr (B:=ziY o) (fun i=>((o.take i).foldl (fun n d=>wi (n * ((d.members.length:Nat):Int))) 1,(i:Int))) o.length (fun i hi=>by
  have e:((i:Nat):Int) < ((o.length:Nat):Int):=by omega
  simp only[ziY,e,decide_true,zh,zi,Aa hi,zk,yN];rw[zN (n:=(i:Int)+1) (by omega) (by omega),ky _ _ _ (Aa hi)];rfl)
 simp only[BR,List.foldl_nil,BS] at hs;simp only[P40,S40];unfold lp;have e0:((0:Nat):Int)=0:=rfl;rw[e0] at hs;rw[hs,zB (y:=(zfW o,(o.length:Int))) (by simp[ziY,zfW])];rfl
def zdg (o:List Dim):Option (Int×Int×Int):=(List.range o.length).findSome? fun i=>match o[i]? with
 | some d=>if (qu d).2=0 then (if zeO (o.take i) d=true then some ((i:Int),(qu d).1,7) else none) else some ((i:Int),(qu d).1,(qu d).2)
 | none=>none
def qS (o:List Dim):Int×Int×Int :=
 if 4 < o.length then (-1, -1,4) else if o=[] then (-1, -1,5) else match zdg o with
 | some r=>r
 | none=>if 3000 < zfW o then (-1, -1,4) else (-1, -1,0)
def P14_eq (o:List Dim):P14 o=some ((qS o).1,(qS o).2.1,zm (qS o).2.2):=by
 simp only[P14,S14];unfold qS;by_cases h1:4 < o.length
 ·have:(4:Int) < ((o.length:Nat):Int):=by omega
  simp[h1,this,zm]
 have nc:¬ (4:Int) < ((o.length:Nat):Int):=by omega
 rw[if_neg h1];simp only[nc,decide_false,za];by_cases h2:o=[]
 ·simp[h2,zm]
 have je:¬ ((o.length:Nat):Int)=0:=fun h=>h2 (AE.1 (by omega));rw[if_neg h2];simp only[je,decide_false,za];have:=yK (B:=kl P15 gJ o) o.length (fun i=>match o[i]? with
  | some d=>if (qu d).2=0 then (if zeO (o.take i) d=true then some ((i:Int),(qu d).1,zm 7) else none) else some ((i:Int),(qu d).1,zm (qu d).2)
  | none=>none) (fun i hi=>by
   have e:((i:Nat):Int) < ((o.length:Nat):Int):=by omega
   have cD:(0:Int)<=0∧(0:Int)<=(i:Int)∧(i:Int)<=((o.length:Nat):Int):=by omega
   have dN:List.take (Int.toNat (i:Int) - Int.toNat (0:Int)) (List.drop (Int.toNat (0:Int)) o)=o.take i:=by simp
   have hlen:(o.take i).length<=9223372036854775807:=by simp;omega
   simp only[kl,e,decide_true,zh,zi,Aa hi,zk,P15_eq,zF,zy cD,dN,P38_eq _ _ hlen];rw[zN (by omega) (by omega)];by_cases h:(qu o[i]).2=0
   ·cases hb:zeO (o.take i) o[i]<;>simp[h,zm]
   ·have:¬ Err.isNil (zm (qu o[i]).2)=true:=by rw[zF];simpa using h
    simp[h,zF]) (by simp[kl])
 unfold lp;rw[this];have e2:((List.range o.length).findSome? fun i=>match o[i]? with
  | some d=>if (qu d).2=0 then (if zeO (o.take i) d=true then some ((i:Int),(qu d).1,zm 7) else none) else some ((i:Int),(qu d).1,zm (qu d).2)
  | none=>none)=(zdg o).map fun r=>(r.1,r.2.1,zm r.2.2):=by
  unfold zdg;rw[← qm];congr 1;funext i;cases o[i]? with
  | none=>rfl
  | some d =>
   by_cases h:(qu d).2=0
   ·cases hb:zeO (o.take i) d<;>simp[h]
   ·simp[h]
 rw[e2];cases zdg o with
 | none =>simp only[BL,z8,P40_eq o (by omega),zk];by_cases h3:3000 < zfW o<;>simp[h3,zm]
 | some r=>rfl
def P51_eq (o:List Dim):P51 o=some (zm (qS o).2.2):=by simp[P51,S51,P14_eq]
structure DimOk (d:Dim):Prop where
 name:zR d.name=false
 solve:0<=d.solve∧d.solve<=9
 len:0 < d.members.length∧d.members.length<=12
 mem:∀ (i:Nat) (m:Member),d.members[i]? = some m->yP d.members i m=0
def ziM {d:Dim}:(qu d).2=0↔DimOk d:=by
 unfold qu;by_cases h1:zR d.name=true
 ·rw[if_pos h1];exact ⟨fun h=>by simp at h,fun h=>by rw[h.name] at h1;cases h1⟩
 rw[if_neg h1];by_cases h2:d.solve < 0∨9 < d.solve
 ·rw[if_pos h2];exact ⟨fun h=>by simp at h,fun h=>by have:=h.solve;omega⟩
 rw[if_neg h2];by_cases h3:12 < d.members.length
 ·rw[if_pos h3];exact ⟨fun h=>by simp at h,fun h=>by have:=h.len;omega⟩
 rw[if_neg h3];by_cases h4:d.members=[]
 ·rw[if_pos h4];exact ⟨fun h=>by simp at h,fun h=>by have:=h.len;rw[h4] at this;simp at this⟩
 rw[if_neg h4];have bh:0 < d.members.length:=CY.2 h4;cases hm:zcV d.members with
 | some r =>
  obtain ⟨i,hi,hr⟩:=AW hm;have hi:i < d.members.length:=by simpa using hi
  rw[Aa hi] at hr;simp only at hr;split at hr
  ·cases hr
  ·rename_i ah;cases hr;exact ⟨fun h=>absurd h ah,fun h=>absurd (h.mem i _ (Aa hi)) ah⟩
 | none =>
  have:=A9.1 hm;refine ⟨fun _=>⟨by simpa using h1,by omega,by omega,fun i m hi => ?_⟩,fun _=>rfl⟩;have aJ:=(Ac.1 hi).1;have:=this i (by simpa using aJ);rw[hi] at this;simp only at this;split at this
  ·assumption
  ·cases this
structure OutOk (o:List Dim):Prop where
 len:0 < o.length∧o.length<=4
 dims:∀ d∈o,DimOk d
 names:∀ (i:Nat) (d:Dim),o[i]? = some d->zeO (o.take i) d=false
 size:zfW o<=3000
def wD {o:List Dim}:(qS o).2.2=0↔OutOk o:=by
 unfold qS;by_cases h1:4 < o.length
 ·rw[if_pos h1];exact ⟨fun h=>by simp at h,fun h=>by have:=h.len;omega⟩
 rw[if_neg h1];by_cases h2:o=[]
 ·rw[if_pos h2];exact ⟨fun h=>by simp at h,fun h=>by have:=h.len;rw[h2] at this;simp at this⟩
 rw[if_neg h2];have bh:0 < o.length:=CY.2 h2;cases hm:zdg o with
 | some r =>
  obtain ⟨i,hi,hr⟩:=AW hm;have hi:i < o.length:=by simpa using hi
  rw[Aa hi] at hr;simp only at hr;split at hr
  ·split at hr
   ·rename_i hb;cases hr;exact ⟨fun h=>by simp at h,fun h=>by rw[h.names i _ (Aa hi)] at hb;cases hb⟩
   ·cases hr
  ·rename_i ah;cases hr;exact ⟨fun h=>absurd h ah,fun h=>absurd (ziM.2 (h.dims _ (AO hi))) ah⟩
 | none =>
  have hn:=A9.1 hm;have each:∀ (i:Nat) (d:Dim),o[i]? = some d->DimOk d∧zeO (o.take i) d=false:=by
   intro i d hi;have aJ:=(Ac.1 hi).1;have:=hn i (by simpa using aJ);rw[hi] at this;simp only at this;split at this
   ·rename_i h0;split at this
    ·cases this
    ·rename_i hb;exact ⟨ziM.1 h0,by simpa using hb⟩
   ·cases this
  by_cases h3:3000 < zfW o
  ·simp only[h3,if_true];exact ⟨fun h=>by simp at h,fun h=>by have:=h.size;omega⟩
  ·simp only[h3,if_false];refine ⟨fun _=>⟨by omega,fun d hd => ?_,fun i d hi=>(each i d hi).2,by omega⟩,fun _=>trivial⟩;obtain ⟨i,hi,rfl⟩:=Bw hd;exact (each i _ (Aa hi)).1
end
end Ab
