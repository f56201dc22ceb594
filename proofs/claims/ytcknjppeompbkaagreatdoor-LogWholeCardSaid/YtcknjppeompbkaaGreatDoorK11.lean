import Derived.Test.YtcknjppeompbkaaGreatDoorK10
set_option linter.all false
noncomputable section
namespace Ab
open Go
section
open Go Go.RowKit
def ParseAt (S:Seat):Prop:=∀ g,qh g S.fns=some 248->∃ gc T,qh gc S.fns=some 241∧qh T S.tys=some 1 ∧
 (∀ (s:ByteArray) (W:World),100 < s.size->Calls S.P g #[.string s] W fun e W'=>e=.returned (.tuple #[.slice none 0 0,.int .i64 0,.iface T (.int .i64 4)])∧KeepO (fun _=>False) W W') ∧
 (∀ (s:ByteArray) (f b:Nat) (W:World),s.size<=100->rd s f (.row true) 0 []=some (.bad b)->Calls S.P g #[.string s] W fun e W'=>e=.returned (.tuple #[.slice none 0 0,.int .i64 b,.iface T (.int .i64 2)])∧KeepO (fun _=>False) W W') ∧
 (∀ (s:ByteArray) (f i b:Nat) (l:List Node) (W:World),s.size<=100->rd s f (.row true) 0 []=some (.ok i b l)->b < s.size->Calls S.P g #[.string s] W fun e W'=>e=.returned (.tuple #[.slice none 0 0,.int .i64 b,.iface T (.int .i64 2)])∧KeepO (fun _=>False) W W') ∧
 (∀ (s:ByteArray) (f i b:Nat) (l:List Node) (W:World) (R:Value->Prop),s.size<=100->rd s f (.row true) 0 []=some (.ok i b l)->s.size<=b->(∀ u,R u->∃ T x,u=.iface T x) ->
  (∀ (v:Value) (X:World),KeepO (fun _=>False) W X->qU W.heap.size X v l->Calls S.P gc #[v] X fun e w'=>∃ u,e=.returned u∧R u∧KeepO (fun _=>False) X w') ->
  Calls S.P g #[.string s] W fun e W'=>∃ u,e=.returned (.tuple #[.slice none 0 0,.int .i64 0,u])∧R u∧KeepO (fun _=>False) W W') ∧
 ∀ (s:ByteArray) (f i b:Nat) (l:List Node) (W:World),s.size<=100->rd s f (.row true) 0 []=some (.ok i b l)->s.size<=b ->
  (∀ (v:Value) (X:World),KeepO (fun _=>False) W X->qU W.heap.size X v l->Calls S.P gc #[v] X fun e w'=>e=.returned .nilIface∧KeepO (fun _=>False) X w') ->
  Calls S.P g #[.string s] W fun e W'=>∃ v',e=.returned (.tuple #[v',.int .i64 0,.nilIface])∧qU W.heap.size W' v' l∧KeepO (fun _=>False) W W'
def readS (s:ByteArray):Option PR:=rd s 404 (.row true) 0 []
def P248 (s:ByteArray):Option (List Node×Int×Err) :=
 if 100 < s.size then some ([],0,.no 4) else
 match readS s with
 | none=>none
 | some (.bad b)=>some ([],(b:Int),.no 2)
 | some (.ok i b l)=>if b < s.size then some ([],(b:Int),.no 2) else bno (P241 l) fun e=>some (if Err.isNil e=true then l else [],0,e)
def k248:CSpec:=⟨248,[.str],.tp [(.sl .node),.int,.err],fun x=>P248 x,false,[]⟩
def r248 {S:Seat} (hP:Plain S) (h:ParseAt S) (nR:Rt S k241):Rt S k248:=fun (s:ByteArray) (y:List Node×Int×Err) hy=>by
 have hy:P248 s=some y:=hy;intro g hg;show wo S g [.v (.string s)] (.tup [.sl 5 (y.1.map Node.cs),aI y.2.1,y.2.2.av]) [];refine w4 (fun A w vs hl hA ha => ?_) (by simp[zm]);obtain ⟨x0,rfl⟩:∃ x0,vs=#[x0]:=by
  obtain ⟨r⟩:=vs
  match r,hl with
  | [x0],_=>exact ⟨x0,rfl⟩
 obtain rfl:x0=.string s:=VR.v_inv (σ:=fun _=>none) (.of0 (ha 0 _ rfl));obtain ⟨gc,T,hgc,hT,h1,h2,h3,h4,h5⟩:=h g hg
 have fin:∀ {w':World} {v u:Value} {r:List Node} {b:Int} {e:Err},KeepO (fun _=>False) w w'->qU w.heap.size w' v r->ErrIs S e u ->
   zgD S A w w' (.tup [.sl 5 (r.map Node.cs),aI b,e.av]) (.tuple #[v,.int .i64 b,u]):=fun {w' v u r b e} hk hv hu=>by
  refine ⟨fun _=>none,by simp,by simp,#[v,.int .i64 b,u],rfl,rfl,fun i x hx => ?_⟩
  match i,hx with
  | 0,hx=>cases hx;exact ⟨rfl,zdY (fun b h1 h2=>⟨.inr h1,h2,by simp⟩) hv⟩
  | 1,hx=>cases hx;exact ⟨rfl,.v _⟩
  | 2,hx =>
   cases hx;cases e with
   | nil=>obtain rfl:=hu;exact ⟨rfl,.v _⟩
   | no n=>obtain ⟨T,rfl,hT⟩:=hu;exact ⟨rfl,.ifc hT (.v _)⟩
   | oth k=>obtain ⟨T,x,rfl,hT⟩:=hu;exact ⟨rfl,.ifc hT (.bot _)⟩
  | i+3,hx=>simp at hx
 unfold P248 readS at hy;by_cases hs:100 < s.size
 ·rw[if_pos hs] at hy;obtain rfl:=Option.some.inj hy;refine (h1 s w hs).mono ?_;rintro e' w' ⟨rfl,hk⟩;exact ⟨_,rfl,hk,fin hk (.inl ⟨rfl,rfl⟩) ⟨T,rfl,hT⟩⟩
 rw[if_neg hs] at hy;have hs:s.size<=100:=by omega
 cases hr:rd s 404 (.row true) 0 [] with
 | none=>rw[hr] at hy;cases hy
 | some p =>
 rw[hr] at hy;cases p with
 | bad b =>obtain rfl:=Option.some.inj hy;refine (h2 s _ b w hs hr).mono ?_;rintro e' w' ⟨rfl,hk⟩;exact ⟨_,rfl,hk,fin hk (.inl ⟨rfl,rfl⟩) ⟨T,rfl,hT⟩⟩
 | ok i b l =>
  simp only at hy;by_cases hb:b < s.size
  ·rw[if_pos hb] at hy;obtain rfl:=Option.some.inj hy;refine (h3 s _ i b l w hs hr hb).mono ?_;rintro e' w' ⟨rfl,hk⟩;exact ⟨_,rfl,hk,fin hk (.inl ⟨rfl,rfl⟩) ⟨T,rfl,hT⟩⟩
  rw[if_neg hb] at hy;have hb:s.size<=b:=by omega
  obtain ⟨e,he,hy⟩:=jo hy;have fq:=nR l e he;have bU:∀ (v:Value) (X:World),KeepO (fun _=>False) w X->qU w.heap.size X v l->Calls S.P gc #[v] X fun e' w'=>∃ u,e'=.returned u∧ErrIs S e u∧KeepO (fun _=>False) X w':=by
   intro v X hk hN;have h0:VR0 S (fun b=>b < X.heap.size) X (.sl 5 (l.map Node.cs)) v:=zdY (fun b _ h=>h) hN
   have:=(show wo S gc [.sl 5 (l.map Node.cs)] e.av [] from fq gc hgc).old0 hP (by simp[zm]) (fun b=>b < X.heap.size) X #[v] rfl
    ⟨fun b hb=>hb,hA.2.keep (fun _ _=>fun e=>e) hk⟩ fun i x hx=>by
     match i,hx with
     | 0,hx=>cases hx;exact h0
     | i+1,hx=>simp at hx
   refine this.mono ?_;rintro e' w' ⟨u,rfl,au,β,_,_,hp⟩;refine ⟨u,rfl, ?_,au⟩;cases e with
   | nil=>exact VR.v_inv (σ:=fun _=>none) (.of0 (show yA S _ _ (β 0) (.v .nilIface) u from hp).2)
   | no n =>
    have h2:=(show yA S _ _ (β 0) (.ifc 1 (aI n)) u from hp).2;cases h2 with
    | ifc hT hv=>exact ⟨_,by rw[VR.v_inv (σ:=fun _=>none) (.of0 hv)],hT⟩
   | oth k =>
    have h2:=(show yA S _ _ (β 0) (.ifc k .bot) u from hp).2;cases h2 with
    | ifc hT hv=>exact ⟨_,_,rfl,hT⟩
  by_cases bD:Err.isNil e=true
  ·obtain rfl:e=.nil:=by cases e<;>simp_all[Err.isNil]
   obtain rfl:=Option.some.inj hy;refine (h5 s _ i b l w hs hr hb fun v X hk hN=>(bU v X hk hN).mono ?_).mono ?_
   ·rintro e' w' ⟨u,rfl,rfl,hk⟩;exact ⟨rfl,hk⟩
   ·rintro e' w' ⟨v,rfl,hv,hk⟩;exact ⟨_,rfl,hk,fin hk hv rfl⟩
  ·rw[if_neg bD] at hy;obtain rfl:=Option.some.inj hy;refine (h4 s _ i b l w (ErrIs S e) hs hr hb (fun u hu => ?_) bU).mono ?_
   ·cases e with
    | nil=>simp[Err.isNil] at bD
    | no n=>obtain ⟨T,rfl,_⟩:=hu;exact ⟨_,_,rfl⟩
    | oth k=>obtain ⟨T,x,rfl,_⟩:=hu;exact ⟨_,_,rfl⟩
   ·rintro e' w' ⟨u,rfl,hu,hk⟩;exact ⟨_,rfl,hk,fin hk (.inl ⟨rfl,rfl⟩) hu⟩
end
section
def size_fold:∀ (o:List Dim) (n:Nat),(∀ d∈o,0 < d.members.length)->n * sizeN o<=1000000000->o.foldl (fun n d=>wi (n * ((d.members.length:Nat):Int))) (n:Int)=((n * sizeN o:Nat):Int)
 | [],n,_,_=>by simp[sizeN]
 | d :: r,n,hp,hb=>by
  have hS:sizeN (d :: r)=d.members.length * sizeN r:=rfl;have eN:∀ x∈r,0 < x.members.length:=fun x hx=>hp x (Ad _ hx);rw[hS,← Nat.mul_assoc] at hb;have hr:0 < sizeN r:=by
   clear hb hS hp
   induction r with
   | nil=>simp[sizeN]
   | cons a r ih =>have h1:=eN a Ah;have h2:=ih fun x hx=>eN x (Ad _ hx);show 0 < a.members.length * sizeN r;exact Nat.mul_pos h1 h2
  have cX:n * d.members.length<=1000000000:=AH (Nat.le_mul_of_pos_right _ hr) hb;have hw:wi ((n:Int) * ((d.members.length:Nat):Int))=((n * d.members.length:Nat):Int):=(by rw[← Int.natCast_mul,ww (by omega) (by omega)]);rw[Br,hw,size_fold r _ eN hb,hS,← Nat.mul_assoc]
def size_le:∀ (o:List Dim),(∀ d∈o,d.members.length<=12)->sizeN o<=12 ^ o.length
 | [],_=>by simp[sizeN]
 | d :: r,h=>by
  have h1:=h d Ah;have h2:=size_le r fun x hx=>h x (Ad _ hx);show d.members.length * sizeN r<=_;rw[AK,Nat.pow_succ,Nat.mul_comm];exact BP h2 h1
def pow_le {n:Nat} (h:n<=4):12 ^ n<=20736:=by have:(12:Nat) ^ n<=12 ^ 4:=B2 (by omega) h;simpa using this
def OutOk.sizeN {o:List Dim} (ok:OutOk o):zfv o=(sizeN o:Nat)∧Ab.sizeN o<=20736:=by have h1:=size_le o fun d hd=>(ok.dims d hd).len.2;have h2:=pow_le ok.len.2;refine ⟨?_,by omega⟩;have:=size_fold o 1 (fun d hd=>(ok.dims d hd).len.1) (by omega);rw[Nat.one_mul] at this;exact this
def numN:List Dim->List Int->Nat
 | _ :: o,m :: p=>m.toNat * sizeN o+numN o p
 | _,_=>0
def Fit.tail {d:Dim} {o:List Dim} {m:Int} {p:List Int} (h:Fit (d :: o) (m :: p)):(0<=m∧m < d.members.length)∧Fit o p :=
 ⟨h.mem 0 m d rfl rfl,by simpa using h.len,fun i m' d' hm hd=>h.mem (i+1) m' d' (by simpa using hm) (by simpa using hd)⟩
def num_lt:∀ {o:List Dim} {p:List Int},Fit o p->numN o p < sizeN o
 | [],[],_=>by simp[numN,sizeN]
 | [],_ :: _,h=>by have:=h.len;simp at this
 | _ :: _,[],h=>by have:=h.len;simp at this
 | d :: o,m :: p,h=>by
  obtain ⟨h1,h2⟩:=h.tail;have:=num_lt h2;have e:sizeN (d :: o)=d.members.length * sizeN o:=rfl;have h3:(m.toNat+1) * sizeN o<=d.members.length * sizeN o:=Az _ (by omega);rw[AZ] at h3;simp only[numN,e];omega
def zeE:∀ {o:List Dim} {p:List Int},(∀ d∈o,0 < d.members.length)->Fit o p->digs o (numN o p)=(p,0)
 | [],[],_,_=>rfl
 | [],_ :: _,_,h=>by have:=h.len;simp at this
 | _ :: _,[],_,h=>by have:=h.len;simp at this
 | d :: o,m :: p,hp,h=>by
  obtain ⟨h1,h2⟩:=h.tail;have oN:∀ d∈o,0 < d.members.length:=fun x hx=>hp x (Ad _ hx);have ih:=zeE oN h2;have hd:=digs_size o oN m.toNat (numN o p) (num_lt h2);have aq:m.toNat < d.members.length:=by omega
  simp only[numN,digs,hd,ih,Nat.mod_eq_of_lt aq,Nat.div_eq_of_lt aq];rw[Cx h1.1]
end
section
inductive Fx where
 | num (n:Int)
 | ref (s:ByteArray)
 | bin (o:Int) (a b:Fx)
section
variable {l:List Node}
-- as text
-- what it comes to
-- its nodes in a row
end
end
end Ab
