import Derived.Test.YtcknjppeompbkaaGreatDoorK2
import Derived.Lib.AtoiAllCases
set_option linter.all false
noncomputable section
namespace Ab
open Go
section
def nd (n:List (List Int)) (i:Nat):List Nat:=(n.getD i []).map Int.toNat
def Rng (n:List (List Int)):Prop:=∀ i k,k∈n.getD i []->0<=k∧k < n.length
end
section
open Go Go.RowKit
def qO (i:Nat) (x:Node):Int :=
 if x.op < 1∨6 < x.op then 1
 else if x.op=1 then (if x.n < 0∨1000000 < x.n then 1 else if x.name=⟨#[]⟩∧x.left=0∧x.right=0 then 0 else 3)
 else if x.op=2 then (if qa x.name=true then 2 else if x.n=0∧x.left=0∧x.right=0 then 0 else 3)
 else if x.left < 0∨(i:Int)<=x.left∨x.right < 0∨(i:Int)<=x.right then 1
 else if x.n=0∧x.name=⟨#[]⟩ then 0 else 3
def errV (T:TypeId) (e:Int):Value:=if e=0 then .nilIface else .iface T (.int .i64 e)
def NodeAt (S:Seat):Prop:=∀ g,qh g S.fns=some 251->∃ gn T,qh gn S.fns=some 41∧qh T S.tys=some 1∧(∀ T',qh T' S.tys=some 1->T'=T)∧∀ (l:List Node) (lv:Value) (k:Nat) (x:Node) (W:World),l[k]? = some x->k<=9223372036854775807->zhJ W.heap.size W lv l ->
 (∀ W',KeepO (fun _=>False) W W'->Calls S.P gn #[.string x.name] W' fun e w'=>e=.returned (errV T (if qa x.name=true then 2 else 0))∧KeepO (fun _=>False) W' w') ->
 Calls S.P g #[lv,.int .i64 k] W fun e W'=>e=.returned (errV T (qO k x))∧KeepO (fun _=>False) W W'
def P251 (l:List Node) (i:Int):Option Err:=ck (decide (i<=9223372036854775807)) (match qb l i with | some x=>some (zp (qO i.toNat x)) | none=>none)
def k251:CSpec:=⟨251,[(.sl .node),.int],.err,fun x=>P251 x.1 x.2,false,[]⟩
def errOf_av (T:TypeId) {S:Seat} {A:Nat->Prop} {w:World} (hT:qh T S.tys=some 1) (e:Int):VR0 S A w (zp e).av (errV T e):=by
 unfold zp errV;by_cases h:e=0
 ·rw[if_pos h,if_pos h];exact .v _
 ·rw[if_neg h,if_neg h];exact .ifc hT (.v _)
def r251 {S:Seat} (hP:Plain S) (h:NodeAt S) (kx:Rt S k41):Rt S k251:=fun (x:List Node×Int) (y:Err) hy=>by
 obtain ⟨l,i⟩:=x;have hy:P251 l i=some y:=hy;obtain ⟨hi,hy⟩:=qg hy;have hi:=of_decide_eq_true hi;cases hx:qb l i with
 | none=>rw[hx] at hy;cases hy
 | some x =>
  rw[hx] at hy;obtain rfl:=Option.some.inj hy;obtain ⟨k,rfl,hk⟩:∃ k:Nat,i=(k:Int)∧l[k]? = some x:=by
   unfold qb at hx;split at hx
   ·exact ⟨i.toNat,by omega,hx⟩
   ·cases hx
  rw[Bw];have hr:=kx x.name _ (P41_eq x.name);intro g hg;show wo S g [.sl 5 (l.map Node.cs),aI (k:Int)] (zp (qO k x)).av [];refine w4 (fun A w vs hl hA ha => ?_) (by simp[zm,aI]);obtain ⟨x0,x1,rfl⟩:∃ x0 x1,vs=#[x0,x1]:=by
   obtain ⟨r⟩:=vs
   match r,hl with
   | [x0,x1],_=>exact ⟨x0,x1,rfl⟩
  obtain rfl:x1=.int .i64 k:=VR.v_inv (σ:=fun _=>none) (.of0 (ha 1 _ rfl));have hN:=nodes_of hA.1 (show VR0 S A w (.sl 5 (l.map Node.cs)) x0 from ha 0 _ rfl);obtain ⟨gn,T,hgn,hT,hu,hw⟩:=h g hg;refine (hw l x0 k x w hk (by omega) hN fun W' au => ?_).mono ?_
  ·have:=(show wo S gn [.v (.string x.name)] (if qa x.name=true then Err.no 2 else Err.nil).av [] from hr gn hgn).old0 hP (by simp[zm]) (fun _=>False) W' #[.string x.name] rfl ⟨fun b hb=>hb.elim,hA.2.keep (fun _ _ e=>e) au⟩ fun i x hx=>by
    match i,hx with
    | 0,hx=>cases hx;exact .v _
    | i+1,hx=>simp at hx
   refine this.mono ?_;rintro e w' ⟨v,rfl,cN,β,_,_,hp⟩;refine ⟨?_,cN⟩;congr 1;by_cases hb:qa x.name=true
   ·rw[if_pos hb] at hp ⊢;have hp:=(show yA S _ _ (β 0) (.ifc 1 (aI 2)) v from hp).2;cases hp with
    | ifc hT2 hv =>rw[VR.v_inv (σ:=fun _=>none) (.of0 hv),hu _ hT2];rfl
   ·rw[if_neg hb] at hp ⊢;exact VR.v_inv (σ:=fun _=>none) (.of0 (show yA S _ _ (β 0) (.v .nilIface) v from hp).2)
  ·rintro e w' ⟨rfl,au⟩;refine ⟨_,rfl,au,fun _=>none,by simp,by simp, ?_⟩;have:=errOf_av (A:=zI A (fun _=>none) w w') (w:=w') T hT (qO k x);generalize (zp (qO k x))=q at this ⊢;cases q<;>exact ⟨rfl,this⟩
end
section
def dec_ne (u:Nat):Lib.decDigits u≠[]:=by
 rw[Lib.decDigits]
 split<;>simp
def dec_len:∀ (k u:Nat),u < 10 ^ (k+1)->(Lib.decDigits u).length<=k+1:=by
 intro k
 induction k with
 | zero =>intro u h;rw[Lib.decDigits,dif_pos (by omega)];simp
 | succ k ih =>
  intro u h;rw[Lib.decDigits];split
  ·simp
  ·have:=ih (u / 10) (by rw[Nat.pow_succ] at h;omega);simp only[AX,BB];omega
def qZ (n:Int):ByteArray:=⟨(Lib.itoa n).toArray⟩
def zi2 (n:Int):(qZ n).size=(Lib.itoa n).length:=by simp[qZ,ByteArray.size]
def zhI {n:Int} (h : -9223372036854775808<=n∧n<=9223372036854775807):P157 n=some (qZ n):=by unfold P157;rw[zL h];rfl
end
section
structure Rooted (l:List Member):Prop where
 up:∀ (i:Nat) (m:Member),l[i]? = some m -> -1<=m.parent∧m.parent < i
 sign:∀ (i:Nat) (m:Member),l[i]? = some m -> -1<=m.sign∧m.sign<=1
 form:∀ (i:Nat) (m:Member),l[i]? = some m->0<=m.parent->hasF l m.parent=false
def zcG {l:List Member} {i:Nat} {m:Member} (h:yJ l i m=0):qa m.name=false∧((l.take i).any fun x=>decide (x.name=m.name))=false∧(-1<=m.parent∧m.parent < i)∧(0<=m.parent->hasF l m.parent=false)∧(-1<=m.sign∧m.sign<=1)∧m.formula.size<=100:=by
 unfold yJ at h;by_cases h1:qa m.name=true
 ·rw[if_pos h1] at h;cases h
 rw[if_neg h1] at h;by_cases h2:((l.take i).any fun x=>decide (x.name=m.name))=true
 ·rw[if_pos h2] at h;cases h
 rw[if_neg h2] at h;by_cases h3:m.parent < -1∨(i:Int)<=m.parent
 ·rw[if_pos h3] at h;cases h
 rw[if_neg h3] at h;by_cases h4:0<=m.parent∧hasF l m.parent=true
 ·rw[if_pos h4] at h;cases h
 rw[if_neg h4] at h;by_cases h5:m.sign < -1∨1 < m.sign
 ·rw[if_pos h5] at h;cases h
 rw[if_neg h5] at h;by_cases h6:100 < m.formula.size
 ·rw[if_pos h6] at h;cases h
 refine ⟨by simpa using h1,by simpa using h2,by omega,fun hp => ?_,by omega,by omega⟩;cases hf:hasF l m.parent with
 | false=>rfl
 | true=>exact absurd ⟨hp,hf⟩ h4
def DimOk.rooted {d:Dim} (h:DimOk d):Rooted d.members :=
 ⟨fun i m hi=>(zcG (h.mem i m hi)).2.2.1,fun i m hi=>(zcG (h.mem i m hi)).2.2.2.2.1,fun i m hi=>(zcG (h.mem i m hi)).2.2.2.1⟩
def idxs (p:Nat->Bool) (n:Nat):List Int:=((List.range n).filter p).map fun (k:Nat)=>(k:Int)
def idxs_succ (p:Nat->Bool) (n:Nat):idxs p (n+1)=match p n with | true=>idxs p n++[(n:Int)] | false=>idxs p n:=by unfold idxs;rw[Ck,CC];cases h:p n<;>simp[h]
def zeO (p:Nat->Bool) (n:Nat):(idxs p n).length<=n:=by unfold idxs;rw[Ar];have:=Bs p (List.range n);simpa using this
def nY {p:Nat->Bool} {n:Nat} {x:Int}:x∈idxs p n↔∃ k:Nat,x=k∧k < n∧p k=true:=by unfold idxs;simp only[Ap,BF,Bc];exact ⟨fun ⟨k,⟨h1,h2⟩,h3⟩=>⟨k,h3.symm,h1,h2⟩,fun ⟨k,h1,h2,h3⟩=>⟨k,⟨h2,h3⟩,h1.symm⟩⟩
def idxs_loop {α:Type} {B:(List Int×Int)->Option (LR (List Int×Int) α)} (p:Nat->Bool) (n:Nat) (h:∀ (i:Nat) (acc:List Int),i < n->acc.length<=i->B (acc,(i:Int))=some (.nx (match p i with | true=>acc++[(i:Int)] | false=>acc,(i:Int)+1))) (hn:∀ acc,B (acc,(n:Int))=some (.dn (acc,(n:Int)))) :
  lpO B ([],0)=some (.inl (idxs p n,(n:Int))):=by
 have:=(qS (B:=B) (fun i=>(idxs p i,(i:Int))) n fun i hi=>by
  rw[h i _ hi (zeO p i),idxs_succ];rfl).trans (jt (hn _))
 exact this
def kC (l:List Member) (i:Int) (k:Nat):Bool:=match l[k]? with | some m=>decide (m.parent=i) | none=>false
def partsOf (l:List Member) (i:Int):List Int:=idxs (kC l i) l.length
def P47_eq {d:Dim} (hl:d.members.length<=1000) (i:Int):P47 d i=some (partsOf d.members i):=by
 simp only[P47,S47,wc];rw[idxs_loop (kC d.members i) d.members.length (fun k acc hk ha => ?_) (fun acc=>by simp[S47_L1])]
 ·rfl
 ·have e:((k:Nat):Int) < ((d.members.length:Nat):Int):=by omega
  have hr:acc.length+1<=qB:=by unfold qB;omega
  simp only[S47_L1,e,decide_true,zw,zn,Ac hk,zq,kC,BB,zL hr,qp,eo];rw[ww (by omega) (by omega)];by_cases h:(d.members[k]).parent=i<;>simp[h]
def gM (l:List Member) (k:Nat):Bool:=match l[k]? with | some m=>decide (m.formula=⟨#[]⟩) && decide (partsOf l k=[]) | none=>false
def P44_eq {d:Dim} (hl:d.members.length<=1000) {k:Nat} (hk:k < d.members.length):P44 d k=some (gM d.members k):=by have e:decide (((List.length (partsOf d.members k):Nat):Int)=0)=decide (partsOf d.members k=[]):=(by congr 1;rw[← Bj];exact propext ⟨fun h=>by omega,fun h=>by omega⟩);simp only[P44,S44,zn,Ac hk,zq,P47_eq hl,gM,e];by_cases h:(d.members[k]).formula=⟨#[]⟩<;>simp[h]
def sgn (l:List Member) (x:Int):Int:=match l[x.toNat]? with | some m=>m.sign | none=>0
section
variable {d:Dim}
end
end
end Ab
