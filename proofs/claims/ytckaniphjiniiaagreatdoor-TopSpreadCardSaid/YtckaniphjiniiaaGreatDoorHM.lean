import Derived.Test.YtckaniphjiniiaaGreatDoorHB
import Derived.Test.YtckaniphjiniiaaGreatDoorHA
set_option linter.all false
namespace Ab
open Go
section
section
variable {α β σ:Type}
attribute [simp] bnd
@[simp] def zx (x:σ):zt (α:=α) (some x)=some (.inl x):=rfl
@[simp] def inlO_n:zt (α:=α) (none:Option σ)=none:=rfl
@[simp] def inrO_s (x:α):ziI (σ:=σ) (some x)=some (.inr x):=rfl
@[simp] def inrO_n:ziI (σ:=σ) (none:Option α)=none:=rfl
@[simp] def ji (x:σ):nxO (α:=α) (some x)=some (.nx x):=rfl
@[simp] def nxO_n:nxO (α:=α) (none:Option σ)=none:=rfl
@[simp] def zdv (x:σ):dnO (α:=α) (some x)=some (.dn x):=rfl
@[simp] def dnO_n:dnO (α:=α) (none:Option σ)=none:=rfl
@[simp] def finO_s (x:α):yk (σ:=σ) (some x)=some (.fin x):=rfl
@[simp] def finO_n:yk (σ:=σ) (none:Option α)=none:=rfl
@[simp] def zY (x:σ) (k:σ->Option α):jn (some (.inl x)) k=k x:=rfl
@[simp] def jn_r (x:α) (k:σ->Option α):jn (some (.inr x)) k=some x:=rfl
@[simp] def jn_n (k:σ->Option α):jn none k=none:=rfl
@[simp] def zj (x:σ) (k:σ->Option α):bno (some x) k=k x:=rfl
@[simp] def bno_n (k:σ->Option α):bno none k=none:=rfl
@[simp] def ze (x y:Option α):br true x y=x:=rfl
@[simp] def za (x y:Option α):br false x y=y:=rfl
@[simp] def jZ (x:Option α):ck true x=x:=rfl
def zJ {p:Prop} [Decidable p] (x y:Option α):br (decide p) x y=if p then x else y:=by by_cases h:p<;>simp[h]
def br_eq (b:Bool) (x y:Option α):br b x y=if b=true then x else y:=by cases b<;>rfl
def zm {p:Prop} [Decidable p] (h:p) (x:Option α):ck (decide p) x=x:=by simp[h]
def zlh (B:σ->Option (LR σ α)):∀(n:Nat) (x:σ) (r:Sum σ α),lpN B n x=some r->∀m,n<=m->lpN B m x=some r:=by
 intro n
 induction n with
 | zero=>intro x r h;simp[lpN] at h
 | succ n ih =>
  intro x r h m hm;obtain⟨m,rfl⟩:∃k,m=k+1:=⟨m-1,by omega⟩;simp only[lpN] at h ⊢;split at h
  ·rename_i y hy;exact ih y r h m (by omega)
  ·exact h
  ·exact h
  ·cases h
def zlg {B:σ->Option (LR σ α)} {n:Nat} {x:σ} {r:Sum σ α} (h:lpN B n x=some r):lpO B x=some r:=by have hx:∃n,(lpN B n x).isSome=true:=⟨n,by rw[h];rfl⟩;unfold lpO;rw[dif_pos hx];have hc:=Dn hx;obtain⟨r',bO⟩:=Option.isSome_iff_exists.1 hc;have a:=zlh B _ _ _ h (max n (Classical.choose hx)) (by omega);have b:=zlh B _ _ _ bO (max n (Classical.choose hx)) (by omega);rw[bO,←b,a]
def nX {B:σ->Option (LR σ α)} {x:σ} {r:Sum σ α} (h:lpO B x=some r):∃n,lpN B n x=some r:=by
 unfold lpO at h;split at h
 ·exact⟨_,h⟩
 ·cases h
def lpO_eq (B:σ->Option (LR σ α)) (x:σ):lpO B x=match B x with
  | some (.nx y)=>lpO B y
  | some (.dn y)=>some (.inl y)
  | some (.fin a)=>some (.inr a)
  | none=>none:=by
 cases hb:B x with
 | none =>
  cases h:lpO B x with
  | none=>rfl
  | some r =>
   obtain⟨n,hn⟩:=nX h;cases n with
   | zero=>simp[lpN] at hn
   | succ n=>simp[lpN,hb] at hn
 | some z =>
  cases z with
  | dn y=>exact zlg (n:=1) (by simp[lpN,hb])
  | fin a=>exact zlg (n:=1) (by simp[lpN,hb])
  | nx y =>
   cases h:lpO B x with
   | none =>
    cases h':lpO B y with
    | none=>simp only[h']
    | some r =>obtain⟨n,hn⟩:=nX h';have:lpO B x=some r:=zlg (n:=n+1) (by simp[lpN,hb,hn]);rw[h] at this;cases this
   | some r =>
    obtain⟨n,hn⟩:=nX h;cases n with
    | zero=>simp[lpN] at hn
    | succ n =>simp[lpN,hb] at hn;simp only[zlg hn]
def qh {B:σ->Option (LR σ α)} {x y:σ} (h:B x=some (.nx y)):lpO B x=lpO B y:=by rw[lpO_eq,h]
def zF {B:σ->Option (LR σ α)} {x y:σ} (h:B x=some (.dn y)):lpO B x=some (.inl y):=by rw[lpO_eq,h]
def jo {B:σ->Option (LR σ α)} {x:σ} {a:α} (h:B x=some (.fin a)):lpO B x=some (.inr a):=by rw[lpO_eq,h]
@[simp] def br_inl (b:Bool) (x y:σ):br b (some (Sum.inl x:Sum σ α)) (some (Sum.inl y))=some (Sum.inl (cond b x y)):=by cases b<;>rfl
@[simp] def br_inr (b:Bool) (x y:α):br b (some (Sum.inr x:Sum σ α)) (some (Sum.inr y))=some (Sum.inr (cond b x y)):=by cases b<;>rfl
@[simp] def br_same (b:Bool) (x:Option α):br b x x=x:=by cases b<;>rfl
@[simp] def yC:Err.isNil .nil=true:=rfl
@[simp] def no_isNil (n:Int):Err.isNil (.no n)=false:=rfl
@[simp] def oth_isNil (n:Nat):Err.isNil (.oth n)=false:=rfl
def zg {xs:List β} (i:Nat):zu xs (i:Int)=xs[i]?:=by simp[zu]
def zbZ {xs:List β} {i:Int} (h0:0<=i) (h1:i<xs.length):zu xs i=some (xs[i.toNat]'(by omega)):=by unfold zu;rw[if_pos h0,Aa]
def zR {n:Int} (h1 : -9223372036854775808<=n) (h2:n<=9223372036854775807):wi n=n:=by simp[wi,IntKind.wrap,IntKind.bits,IntKind.signed];omega
def zP {B:σ->Option (LR σ α)} (st:Nat->σ):∀(n:Nat),(∀i,i<n->B (st i)=some (.nx (st (i+1))))->lpO B (st 0)=lpO B (st n)
 | 0,_=>rfl
 | n+1,h=>by rw[zP st n fun i hi=>h i (by omega),qh (h n (by omega))]
def yo {B:Int->Option (LR Int α)} (n:Nat) (g:Nat->Option α) (h:∀i:Nat,i<n->B i=some (match g i with|some r=>.fin r|none=>.nx ((i:Int)+1))) (hn:B n=some (.dn n)) :
  lpO B 0=some (match (List.range n).findSome? g with|some r=>.inr r|none=>.inl (n:Int)):=by
 have all:∀k,k<=n->lpO B ((n-k:Nat):Int)=some (match (List.range' (n-k) k).findSome? g with|some r=>.inr r|none=>.inl (n:Int)):=by
  intro k
  induction k with
  | zero=>intro _;simpa using zF hn
  | succ k ih =>
   intro hk;have hb:=h (n-(k+1)) (by omega);rw[List.range'_succ,Cg];cases hg:g (n-(k+1)) with
   | some r=>rw[hg] at hb;exact jo hb
   | none =>
    rw[hg] at hb;rw[qh hb];have e:((n-(k+1):Nat):Int)+1=((n-k:Nat):Int):=by omega
    have e':n-(k+1)+1=n-k:=by omega
    rw[e,e'];exact ih (by omega)
 have:=all n (Az _);rw[Ck] at this;rw[Ds];exact this
def idxOf (p:β->Bool) (xs:List β):Int:=match xs.findIdx? p with|some i=>(i:Int)|none => -1
def zdG {B:Int->Option (LR Int α)} (n:Nat) (h:∀i:Nat,i<n->B (i:Int)=some (.nx ((i:Int)+1))):lpO B 0=lpO B (n:Int) :=
 zP (fun i=>(i:Int)) n fun i hi=>by rw[h i hi];rfl
def mZ {B:Int->Option (LR Int Int)} (p:β->Bool) (xs:List β) (h:∀(i:Nat) (y:β),xs[i]? = some y->B (i:Int)=some (match p y with|true=>.fin (i:Int)|false=>.nx ((i:Int)+1))) (hn:B (xs.length:Int)=some (.dn (xs.length:Int))) :
  lp B 0 (fun _=>some (-1:Int))=some (idxOf p xs):=by
 unfold lp idxOf;cases hf:xs.findIdx? p with
 | none =>rw[zdG xs.length fun i hi => ?_,zF hn];rfl;rw[h i _ (Aa hi)];have:=Cx.1 hf _ (Ay hi);rw[this]
 | some k =>obtain⟨hk,h1,h2⟩:=BJ.1 hf;have hb:=h k _ (Aa hk);rw[h1] at hb;rw[zdG k fun i hi => ?_,jo hb];rfl;rw[h i _ (Aa (by omega))];have:=h2 i hi;simp only[BZ] at this;rw[this]
def zhz {B:Int->Option (LR Int α)} (p:β->Bool) (xs:List β) (r e:α) (h:∀(i:Nat) (y:β),xs[i]? = some y->B (i:Int)=some (match p y with|true=>.fin r|false=>.nx ((i:Int)+1))) (hn:B (xs.length:Int)=some (.dn (xs.length:Int))) :
  lp B 0 (fun _=>some e)=some (if xs.any p=true then r else e):=by
 unfold lp;cases hf:xs.findIdx? p with
 | none =>
  have hall:=Cx.1 hf;have:xs.any p=false:=by simp only[Cq];intro x hx;rw[hall x hx];simp
  rw[zdG xs.length fun i hi => ?_,zF hn,this];rfl;rw[h i _ (Aa hi),hall _ (Ay hi)]
 | some k =>obtain⟨hk,h1,h2⟩:=BJ.1 hf;have hb:=h k _ (Aa hk);rw[h1] at hb;have:xs.any p=true:=BX.2 ⟨_,Ay hk,h1⟩;rw[zdG k fun i hi => ?_,jo hb,this];rfl;rw[h i _ (Aa (by omega))];have:=h2 i hi;simp only[BZ] at this;rw[this]
def ziN {p:β->Bool} {xs:List β}:idxOf p xs<0↔xs.any p=false:=by
 unfold idxOf;cases hf:xs.findIdx? p with
 | none =>have:=Cx.1 hf;simp only[Cq];exact⟨fun _ x hx=>by rw[this x hx];simp,fun _=>by omega⟩
 | some k =>obtain⟨hk,h1,h2⟩:=BJ.1 hf;simp only[Cq];exact⟨fun h=>by omega,fun h=>absurd h1 (h _ (Ay hk))⟩
def qC {γ:Type} (f:γ->Option α) (g:α->β) (l:List γ):l.findSome? (fun a=>(f a).map g)=(l.findSome? f).map g:=by
 induction l with
 | nil=>rfl
 | cons a l ih=>rw[Cg,Cg];cases f a with|none=>simpa using ih|some y=>rfl
def yE {γ:Type} (f:σ->γ->σ) (s:σ) (l:List γ) {i:Nat} {a:γ} (h:l[i]? = some a):(l.take (i+1)).foldl f s=f ((l.take i).foldl f s) a:=by obtain⟨hi,rfl⟩:=Ac.1 h;rw[Cd hi,DJ];rfl
def zW (B:σ->Option (LR σ α)) (x:σ) (k:σ->Option α):lp B x k=jn (lpO B x) k:=rfl
@[simp] def cond_dec {p:Prop} [Decidable p] (x y:σ):cond (decide p) x y=if p then x else y:=by by_cases h:p<;>simp[h]
end
end
section
def qg (s:ByteArray):Bool:=decide (s=⟨#[]⟩) || (decide (8<s.size) || s.data.toList.any fun c=>decide (c.toNat<97) || decide (122<c.toNat))
def zn (e:Int):Err:=if e=0 then .nil else .no e
def P67_eq (n:Int):P67 n=some (decide (n<97) || decide (122<n)):=by simp[P67,S67]
def P75_eq (l:List UInt8) (h:l.length<=9223372036854775807):P75_67 l=some (idxOf (fun c=>decide (c.toNat<97) || decide (122<c.toNat)) l):=by
 refine mZ _ l (fun i y hy => ?_) (by simp[zfc]);have hi:=(Ac.1 hy).1;have e:(((i:Nat):Int)<((l.length:Nat):Int)):=by omega
 simp only[zfc,zg,hy,zj,P67_eq,e,decide_true,ze];rw[zR (by omega) (by omega)];have e1:((y.toNat:Nat):Int)<97↔y.toNat<97:=by omega
 have e2:122<((y.toNat:Nat):Int)↔122<y.toNat:=by omega
 simp only[e1,e2];cases (decide (y.toNat<97) || decide (122<y.toNat))<;>rfl
def zhA {β:Type} (p:β->Bool) (l:List β):decide (0<=idxOf p l)=l.any p:=by
 cases h:l.any p with
 | false=>have:=ziN.2 h;simp;omega
 | true =>
  have:¬idxOf p l<0:=fun e=>by rw[ziN.1 e] at h;cases h
  simp;omega
def P41_eq (s:ByteArray):P41 s=some (if qg s then .no 2 else .nil):=by
 by_cases h1:s=⟨#[]⟩
 ·subst h1;simp[P41,S41,qg]
 ·by_cases h2:8<s.size
  ·have:(8:Int)<((s.size:Nat):Int):=by omega
   simp[P41,S41,qg,h1,h2,this]
  ·have h3:¬(8:Int)<((s.size:Nat):Int):=by omega
   have hl:s.data.toList.length<=9223372036854775807:=(by have:s.data.toList.length=s.size:=rfl;omega);simp only[P41,S41,P66_67,S66_67,P75_eq _ hl,h1,h3,decide_false,za,zj,zhA,zx,zY];simp only[qg,h1,h2,decide_false,Bool.false_or];cases (s.data.toList.any fun c=>decide (c.toNat<97) || decide (122<c.toNat))<;>rfl
def jO (l:List Member) (s:ByteArray):Int:=idxOf (fun m=>decide (m.name=s)) l
def P37_eq (l:List Member) (s:ByteArray) (h:l.length<=9223372036854775807):P37 l s=some (jO l s):=by
 have:P63_64 l s=some (jO l s):=by
  refine mZ _ l (fun i y hy => ?_) (by simp[zfe]);have hi:=(Ac.1 hy).1;have e:(((i:Nat):Int)<((l.length:Nat):Int)):=by omega
  simp only[zfe,zg,hy,zj,P64,S64,e,decide_true,ze];rw[zR (by omega) (by omega)];cases decide (y.name=s)<;>rfl
 simp[P37,S37,this]
def zgR (l:List Dim) (d:Dim):Bool:=l.any fun x=>decide (x.name=d.name)
def P38_eq (l:List Dim) (d:Dim) (h:l.length<=9223372036854775807):zjp l d=some (zgR l d):=by
 have:P65_39 l d=some (idxOf (fun x=>decide (x.name=d.name)) l):=by
  refine mZ _ l (fun i y hy => ?_) (by simp[zfd]);have hi:=(Ac.1 hy).1;have e:(((i:Nat):Int)<((l.length:Nat):Int)):=by omega
  simp only[zfd,zg,hy,zj,P39,S39,e,decide_true,ze];rw[zR (by omega) (by omega)];cases decide (y.name=d.name)<;>rfl
 simp[zjp,S38_39,this,zhA,zgR]
def hasF (l:List Member) (p:Int):Bool:=match l[p.toNat]? with|some x=>decide (¬x.formula=⟨#[]⟩)|none=>false
def wT (l:List Member) (i:Nat) (m:Member):Int :=
 if qg m.name=true then 2 else if ((l.take i).any fun x=>decide (x.name=m.name))=true then 7 else if m.parent < -1∨(i:Int)<=m.parent then 1
 else if 0<=m.parent∧hasF l m.parent=true then 6 else if m.sign < -1∨1<m.sign then 1 else if 100<m.formula.size then 4 else 0
def zlX (l:List Member) (s:ByteArray):decide (0<=jO l s)=l.any fun x=>decide (x.name=s):=zhA _ _
def P42_eq {l:List Member} {i:Nat} {m:Member} (hi:l[i]? = some m) (hl:l.length<=9223372036854775807):P42 l i=some (zn (wT l i m)):=by
 have aj:=(Ac.1 hi).1;have bd:(0:Int)<=0∧(0:Int)<=(i:Int)∧(i:Int)<=((l.length:Nat):Int):=by omega
 have fH:List.take (Int.toNat (i:Int)-Int.toNat (0:Int)) (List.drop (Int.toNat (0:Int)) l)=l.take i:=by simp
 have hlen:(l.take i).length<=9223372036854775807:=by simp;omega
 simp only[P42,S42,zg,hi,zj,P41_eq];unfold wT;by_cases h1:qg m.name=true
 ·simp[h1,zn]
 rw[if_neg h1,if_neg h1];simp only[yC,AW,za,zm bd,fH,P37_eq _ _ hlen,zj,zlX];by_cases h2:((l.take i).any fun x=>decide (x.name=m.name))=true
 ·rw[h2,if_pos rfl];rfl
 rw[if_neg h2];simp only[BZ] at h2;simp only[h2,za];by_cases h3:m.parent < -1∨(i:Int)<=m.parent
 ·rw[if_pos h3];rcases h3 with h3|h3
  ·simp[h3,zn]
  ·by_cases kv:m.parent < -1<;>simp[h3,kv,zn]
 rw[if_neg h3];have h3a:¬m.parent < -1:=fun h=>h3 (.inl h);have h3b:¬(i:Int)<=m.parent:=fun h=>h3 (.inr h);simp only[h3a,h3b,decide_false,za,zx,zY];have h4:jn (σ:=Bool) (α:=Err) (br (decide ((0:Int)<=(Member.parent m))) (bno (zu l (Member.parent m)) fun y5=>some (.inl (decide (¬(Member.formula y5)=(⟨#[]⟩:ByteArray))))) (some (.inl false)))=fun k=>k (decide (0<=m.parent∧hasF l m.parent=true)):=by
  funext k;by_cases h:0<=m.parent
  ·have hb:m.parent<l.length:=by omega
   have hh:hasF l m.parent=decide (¬(l[m.parent.toNat]'(by omega)).formula=⟨#[]⟩):=(by unfold hasF;rw[Aa (by omega)]);rw[zbZ h hb];simp[h,hh]
  ·simp[h]
 rw[h4];by_cases h5:0<=m.parent∧hasF l m.parent=true
 ·rw[if_pos h5];simp[h5,zn]
 rw[if_neg h5];simp only[h5,decide_false,za];by_cases h6:m.sign < -1∨1<m.sign
 ·rw[if_pos h6];rcases h6 with h6|h6
  ·simp[h6,zn]
  ·by_cases h6':m.sign < -1<;>simp[h6,h6',zn]
 rw[if_neg h6];have h6a:¬m.sign < -1:=fun h=>h6 (.inl h);have h6b:¬1<m.sign:=fun h=>h6 (.inr h);simp only[h6a,h6b,decide_false,za,zx,zY];by_cases h7:100<m.formula.size
 ·have:(100:Int)<((m.formula.size:Nat):Int):=by omega
  simp[h7,this,zn]
 ·have:¬(100:Int)<((m.formula.size:Nat):Int):=by omega
  simp[h7,this,zn]
def zer (l:List Member):Option (Int×Int):=(List.range l.length).findSome? fun i=>match l[i]? with
 | some m=>if wT l i m=0 then none else some ((i:Int),wT l i m)
 | none=>none
def qw (d:Dim):Int×Int :=
 if qg d.name=true then (-1,2) else if d.solve<0∨9<d.solve then (-1,1) else if 12<d.members.length then (-1,4) else if d.members=[] then (-1,5)
 else match zer d.members with|some r=>r|none=>(-1,0)
def zB {e:Int}:(zn e).isNil=decide (e=0):=by unfold zn;split<;>simp_all
def P15_eq (d:Dim):P15 d=some ((qw d).1,zn (qw d).2):=by
 simp only[P15,S15,P41_eq,zj];unfold qw;by_cases h1:qg d.name=true
 ·simp[h1,zn]
 rw[if_neg h1,if_neg h1];simp only[yC,AW,za,zx,br_inl,zY,cond_dec];by_cases h2:d.solve<0∨9<d.solve
 ·rw[if_pos h2];rcases h2 with h2|h2
  ·simp[h2,zn]
  ·by_cases mQ:d.solve<0<;>simp[h2,mQ,zn]
 rw[if_neg h2];have h2a:¬d.solve<0:=fun h=>h2 (.inl h);have h2b:¬9<d.solve:=fun h=>h2 (.inr h);simp only[h2a,h2b,if_false,decide_false,za];by_cases h3:12<d.members.length
 ·have:(12:Int)<((d.members.length:Nat):Int):=by omega
  simp[h3,this,zn]
 have kv:¬(12:Int)<((d.members.length:Nat):Int):=by omega
 rw[if_neg h3];simp only[kv,decide_false,za];by_cases h4:d.members=[]
 ·simp[h4,zn]
 have fC:¬((d.members.length:Nat):Int)=0:=(by intro h;exact h4 (AN.1 (by omega)));rw[if_neg h4];simp only[fC,decide_false,za];have:=yo (B:=zlQ P42 d) d.members.length (fun i=>match d.members[i]? with
  | some m=>if wT d.members i m=0 then none else some ((i:Int),zn (wT d.members i m))
  | none=>none) (fun i hi=>by
   have e:((i:Nat):Int)<((d.members.length:Nat):Int):=by omega
   simp only[zlQ,e,decide_true,ze,P42_eq (Aa hi) (by omega),zj,Aa hi,zB];rw[zR (by omega) (by omega)];by_cases h:wT d.members i d.members[i]=0<;>simp[h]) (by simp[zlQ])
 unfold lp;rw[this];have e2:((List.range d.members.length).findSome? fun i=>match d.members[i]? with
  | some m=>if wT d.members i m=0 then none else some ((i:Int),zn (wT d.members i m))
  | none=>none)=(zer d.members).map fun r=>(r.1,zn r.2):=by
  unfold zer;rw[←qC];congr 1;funext i;cases d.members[i]? with
  | none=>rfl
  | some m=>by_cases h:wT d.members i m=0<;>simp[h]
 rw[e2];cases zer d.members with
 | none=>simp[zn]
 | some r=>rfl
def zia (o:List Dim):Int:=o.foldl (fun n d=>wi (n*((d.members.length:Nat):Int))) 1
def P40_eq (o:List Dim) (h:o.length<=9223372036854775807):P40 o=some (zia o):=by
 have hs:=zP (B:=zlO o) (fun i=>((o.take i).foldl (fun n d=>wi (n*((d.members.length:Nat):Int))) 1,(i:Int))) o.length (fun i hi=>by
  have e:((i:Nat):Int)<((o.length:Nat):Int):=by omega
  simp only[zlO,e,decide_true,ze,zg,Aa hi,zj,ji];rw[zR (n:=(i:Int)+1) (by omega) (by omega),yE _ _ _ (Aa hi)];rfl)
 simp only[Ci,Dv,BA] at hs;simp only[P40,S40];unfold lp;have e0:((0:Nat):Int)=0:=rfl;rw[e0] at hs;rw[hs,zF (y:=(zia o,(o.length:Int))) (by simp[zlO,zia])];rfl
def zeP (o:List Dim):Option (Int×Int×Int):=(List.range o.length).findSome? fun i=>match o[i]? with
 | some d=>if (qw d).2=0 then (if zgR (o.take i) d=true then some ((i:Int),(qw d).1,7) else none) else some ((i:Int),(qw d).1,(qw d).2)
 | none=>none
def je (o:List Dim):Int×Int×Int :=
 if 4<o.length then (-1, -1,4) else if o=[] then (-1, -1,5) else match zeP o with
 | some r=>r
 | none=>if 3000<zia o then (-1, -1,4) else (-1, -1,0)
def P14_eq (o:List Dim):P14 o=some ((je o).1,(je o).2.1,zn (je o).2.2):=by
 simp only[P14,S14];unfold je;by_cases h1:4<o.length
 ·have:(4:Int)<((o.length:Nat):Int):=by omega
  simp[h1,this,zn]
 have sa:¬(4:Int)<((o.length:Nat):Int):=by omega
 rw[if_neg h1];simp only[sa,decide_false,za];by_cases h2:o=[]
 ·simp[h2,zn]
 have mQ:¬((o.length:Nat):Int)=0:=fun h=>h2 (AN.1 (by omega));rw[if_neg h2];simp only[mQ,decide_false,za];have:=yo (B:=zlR P15 zjp o) o.length (fun i=>match o[i]? with
  | some d=>if (qw d).2=0 then (if zgR (o.take i) d=true then some ((i:Int),(qw d).1,zn 7) else none) else some ((i:Int),(qw d).1,zn (qw d).2)
  | none=>none) (fun i hi=>by
   have e:((i:Nat):Int)<((o.length:Nat):Int):=by omega
   have bd:(0:Int)<=0∧(0:Int)<=(i:Int)∧(i:Int)<=((o.length:Nat):Int):=by omega
   have fH:List.take (Int.toNat (i:Int)-Int.toNat (0:Int)) (List.drop (Int.toNat (0:Int)) o)=o.take i:=by simp
   have hlen:(o.take i).length<=9223372036854775807:=by simp;omega
   simp only[zlR,e,decide_true,ze,zg,Aa hi,zj,P15_eq,zB,zm bd,fH,P38_eq _ _ hlen];rw[zR (by omega) (by omega)];by_cases h:(qw o[i]).2=0
   ·cases hb:zgR (o.take i) o[i]<;>simp[h,zn]
   ·have:¬Err.isNil (zn (qw o[i]).2)=true:=by rw[zB];simpa using h
    simp[h,zB]) (by simp[zlR])
 unfold lp;rw[this];have e2:((List.range o.length).findSome? fun i=>match o[i]? with
  | some d=>if (qw d).2=0 then (if zgR (o.take i) d=true then some ((i:Int),(qw d).1,zn 7) else none) else some ((i:Int),(qw d).1,zn (qw d).2)
  | none=>none)=(zeP o).map fun r=>(r.1,r.2.1,zn r.2.2):=by
  unfold zeP;rw[←qC];congr 1;funext i;cases o[i]? with
  | none=>rfl
  | some d =>
   by_cases h:(qw d).2=0
   ·cases hb:zgR (o.take i) d<;>simp[h]
   ·simp[h]
 rw[e2];cases zeP o with
 | none =>simp only[Ca,zY,P40_eq o (by omega),zj];by_cases h3:3000<zia o<;>simp[h3,zn]
 | some r=>rfl
def P51_eq (o:List Dim):P51 o=some (zn (je o).2.2):=by simp[P51,S51,P14_eq]
structure DimOk (d:Dim):Prop where
 name:qg d.name=false
 solve:0<=d.solve∧d.solve<=9
 len:0<d.members.length∧d.members.length<=12
 mem:∀(i:Nat) (m:Member),d.members[i]? = some m->wT d.members i m=0
def lB {d:Dim}:(qw d).2=0↔DimOk d:=by
 unfold qw;by_cases h1:qg d.name=true
 ·rw[if_pos h1];exact⟨fun h=>by simp at h,fun h=>by rw[h.name] at h1;cases h1⟩
 rw[if_neg h1];by_cases h2:d.solve<0∨9<d.solve
 ·rw[if_pos h2];exact⟨fun h=>by simp at h,fun h=>by have:=h.solve;omega⟩
 rw[if_neg h2];by_cases h3:12<d.members.length
 ·rw[if_pos h3];exact⟨fun h=>by simp at h,fun h=>by have:=h.len;omega⟩
 rw[if_neg h3];by_cases h4:d.members=[]
 ·rw[if_pos h4];exact⟨fun h=>by simp at h,fun h=>by have:=h.len;rw[h4] at this;simp at this⟩
 rw[if_neg h4];have aO:0<d.members.length:=List.length_pos_iff.2 h4;cases hm:zer d.members with
 | some r =>
  obtain⟨i,hi,hr⟩:=AO hm;have hi:i<d.members.length:=by simpa using hi
  rw[Aa hi] at hr;simp only at hr;split at hr
  ·cases hr
  ·rename_i ah;cases hr;exact⟨fun h=>absurd h ah,fun h=>absurd (h.mem i _ (Aa hi)) ah⟩
 | none =>
  have:=A9.1 hm;refine⟨fun _=>⟨by simpa using h1,by omega,by omega,fun i m hi => ?_⟩,fun _=>rfl⟩;have aQ:=(Ac.1 hi).1;have:=this i (by simpa using aQ);rw[hi] at this;simp only at this;split at this
  ·assumption
  ·cases this
structure OutOk (o:List Dim):Prop where
 len:0<o.length∧o.length<=4
 dims:∀d∈o,DimOk d
 names:∀(i:Nat) (d:Dim),o[i]? = some d->zgR (o.take i) d=false
 size:zia o<=3000
def zbf {o:List Dim}:(je o).2.2=0↔OutOk o:=by
 unfold je;by_cases h1:4<o.length
 ·rw[if_pos h1];exact⟨fun h=>by simp at h,fun h=>by have:=h.len;omega⟩
 rw[if_neg h1];by_cases h2:o=[]
 ·rw[if_pos h2];exact⟨fun h=>by simp at h,fun h=>by have:=h.len;rw[h2] at this;simp at this⟩
 rw[if_neg h2];have aO:0<o.length:=List.length_pos_iff.2 h2;cases hm:zeP o with
 | some r =>
  obtain⟨i,hi,hr⟩:=AO hm;have hi:i<o.length:=by simpa using hi
  rw[Aa hi] at hr;simp only at hr;split at hr
  ·split at hr
   ·rename_i hb;cases hr;exact⟨fun h=>by simp at h,fun h=>by rw[h.names i _ (Aa hi)] at hb;cases hb⟩
   ·cases hr
  ·rename_i ah;cases hr;exact⟨fun h=>absurd h ah,fun h=>absurd (lB.2 (h.dims _ (Ay hi))) ah⟩
 | none =>
  have hn:=A9.1 hm;have each:∀(i:Nat) (d:Dim),o[i]? = some d->DimOk d∧zgR (o.take i) d=false:=by
   intro i d hi;have aQ:=(Ac.1 hi).1;have:=hn i (by simpa using aQ);rw[hi] at this;simp only at this;split at this
   ·rename_i h0;split at this
    ·cases this
    ·rename_i hb;exact⟨lB.1 h0,by simpa using hb⟩
   ·cases this
  by_cases h3:3000<zia o
  ·simp only[h3,if_true];exact⟨fun h=>by simp at h,fun h=>by have:=h.size;omega⟩
  ·simp only[h3,if_false];refine⟨fun _=>⟨by omega,fun d hd => ?_,fun i d hi=>(each i d hi).2,by omega⟩,fun _=>trivial⟩;obtain⟨i,hi,rfl⟩:=Bz hd;exact (each i _ (Aa hi)).1
end
end Ab
