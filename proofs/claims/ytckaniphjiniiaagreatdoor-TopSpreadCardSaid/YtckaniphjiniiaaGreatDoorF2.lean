import Derived.Test.YtckaniphjiniiaaGreatDoorHE
set_option linter.all false
noncomputable section
namespace Ab
section
open Go Go.RowKit
def pk (s:ByteArray) (i:Nat):Nat:=match s.data[i]? with|some b=>b.toNat|none=>0
def dgB (c:Nat):Bool:=decide (48<=c) && decide (c<=57)
def ltB (c:Nat):Bool:=decide (97<=c) && decide (c<=122)
def zaU (s:ByteArray) (from_:Nat):Nat->Nat->Nat
 | 0,i=>i
 | f+1,i=>if dgB (pk s i)=true∧i-from_<7∧(i=from_∨pk s from_≠48) then zaU s from_ f (i+1) else i
def zgY (s:ByteArray):Nat->Nat->Nat
 | 0,i=>i
 | f+1,i=>if ltB (pk s i)=true then zgY s f (i+1) else i
inductive PR where
 | ok (i at_:Nat) (l:List Node)
 | bad (at_:Nat)
inductive Md where
 | one
 | row (lv:Bool)
 | more (lv:Bool) (i:Nat)
def zfL (lv:Bool):Md:=if lv=true then .row false else .one
def eI (lv:Bool) (c:Nat):Bool:=if lv=true then c == 43 || c == 45 else c == 42 || c == 47
def opC (c:Nat):Int:=if c=43 then 3 else if c=45 then 4 else if c=42 then 5 else 6
def rd (s:ByteArray):Nat->Md->Nat->List Node->Option PR
 | 0,_,_,_=>none
 | f+1,.one,at_,l =>
  if 1000<=l.length then none
  else if dgB (pk s at_)=true then some (.ok l.length (zaU s at_ 8 at_) (l++[⟨1,(zji (s.extract at_ (zaU s at_ 8 at_))).1,⟨#[]⟩,0,0⟩]))
  else if ltB (pk s at_)=true then some (.ok l.length (zgY s (s.size+1) at_) (l++[⟨2,0,s.extract at_ (zgY s (s.size+1) at_),0,0⟩]))
  else if pk s at_≠40 then some (.bad at_)
  else match rd s f (.row true) (at_+1) l with
   | some (.ok i a l')=>if pk s a≠41 then some (.bad a) else some (.ok i (a+1) l')
   | r=>r
 | f+1,.row lv,at_,l=>match rd s f (zfL lv) at_ l with
  | some (.ok i a l')=>rd s f (.more lv i) a l'
  | r=>r
 | f+1,.more lv i,at_,l =>
  if eI lv (pk s at_)=false then some (.ok i at_ l)
  else match rd s f (zfL lv) (at_+1) l with
   | some (.ok k a l')=>if 1000<=l'.length then none else rd s f (.more lv l'.length) a (l'++[⟨opC (pk s at_),0,⟨#[]⟩,i,k⟩])
   | r=>r
def dg_lt {s:ByteArray} {j:Nat} (h:dgB (pk s j)=true):j<s.size:=by
 unfold pk at h;cases hj:s.data[j]? with
 | none=>rw[hj] at h;simp[dgB] at h
 | some b=>exact (Bs.1 hj).1
def lt_lt {s:ByteArray} {j:Nat} (h:ltB (pk s j)=true):j<s.size:=by
 unfold pk at h;cases hj:s.data[j]? with
 | none=>rw[hj] at h;simp[ltB] at h
 | some b=>exact (Bs.1 hj).1
def zgP {s:ByteArray} {j:Nat} (h:pk s j≠0):j<s.size:=by
 unfold pk at h;cases hj:s.data[j]? with
 | none=>rw[hj] at h;exact absurd rfl h
 | some b=>exact (Bs.1 hj).1
def pk_at {s:ByteArray} {j:Nat} (h:j<s.size):s.data[j]? = some (s.data[j]'h)∧pk s j=(s.data[j]'h).toNat:=by have e:s.data[j]? = some (s.data[j]'h):=Bh h;exact⟨e,by unfold pk;rw[e]⟩
def pk_256 (s:ByteArray) (j:Nat):pk s j<256:=by
 unfold pk;cases s.data[j]? with
 | none=>decide
 | some b=>exact b.toNat_lt
def zbp (s:ByteArray) (a:Nat):∀(f i:Nat),i<=zaU s a f i∧(∀j,i<=j->j<zaU s a f i->dgB (pk s j)=true)∧(i-a<=7->zaU s a f i-a<=7)∧(i<=s.size->zaU s a f i<=s.size)
 | 0,i=>⟨Az _,fun j h1 h2=>absurd (Cz h1 h2) (DC _),id,id⟩
 | f+1,i=>by
  simp only[zaU];split
  ·rename_i h;obtain⟨h1,h2,h3,h4⟩:=zbp s a f (i+1);refine⟨by omega,fun j h5 h6 => ?_,fun _=>h3 (by omega),fun _=>h4 (dg_lt h.1)⟩;by_cases e:j=i
   ·subst e;exact h.1
   ·exact h2 j (by omega) h6
  ·exact⟨Az _,fun j h1 h2=>absurd (Cz h1 h2) (DC _),id,id⟩
def zep (s:ByteArray):∀(f i:Nat),i<=zgY s f i∧(∀j,i<=j->j<zgY s f i->ltB (pk s j)=true)∧(i<=s.size->zgY s f i<=s.size)
 | 0,i=>⟨Az _,fun j h1 h2=>absurd (Cz h1 h2) (DC _),id⟩
 | f+1,i=>by
  simp only[zgY];split
  ·rename_i h;obtain⟨h1,h2,h4⟩:=zep s f (i+1);refine⟨by omega,fun j h5 h6 => ?_,fun _=>h4 (lt_lt h)⟩;by_cases e:j=i
   ·subst e;exact h
   ·exact h2 j (by omega) h6
  ·exact⟨Az _,fun j h1 h2=>absurd (Cz h1 h2) (DC _),id⟩
def uint_ok:∀(ds:List UInt8) (acc k:Nat),(∀c∈ds,48<=c.toNat∧c.toNat<=57)->acc<10 ^ k->k+ds.length<=15->∃u,Lib.parseUint10 acc ds=.ok u∧u<10 ^ (k+ds.length)
 | [],acc,k,_,h,_=>⟨acc,rfl,h⟩
 | c::r,acc,k,hd,h,hl=>by
  obtain⟨h1,h2⟩:=hd c (by simp);simp only[Ax] at hl;have hp:(10:Nat) ^ k<=10 ^ 15:=CL (by decide) (by omega);have hq:(10:Nat) ^ (k+1)<=10 ^ 15:=CL (by decide) (by omega);have hs:(10:Nat) ^ (k+1)=10 ^ k*10:=Nat.pow_succ ..;obtain⟨u,e1,e2⟩:=uint_ok r (acc*10+(c.toNat-48)) (k+1) (fun c hc=>hd c (Ad _ hc)) (by omega) (by omega);refine⟨u, ?_,by simp only[Ax];rw[show k+(r.length+1)=k+1+r.length by omega];exact e2⟩;simp only[Lib.parseUint10];rw[if_pos ⟨h1,h2⟩,if_neg (by omega),if_neg (by omega)];exact e1
def atoi_dig {ds:List UInt8} (h:ds≠[]) (hd:∀c∈ds,48<=c.toNat∧c.toNat<=57) (hl:ds.length<=15):∃v,Lib.atoiAll ds=.ok v:=by
 cases ds with
 | nil=>exact absurd rfl h
 | cons c r =>
  obtain⟨u,e1,e2⟩:=uint_ok (c::r) 0 0 hd (by decide) (by omega);obtain⟨h1,h2⟩:=hd c (by simp);have e3:(10:Nat) ^ (0+(c::r).length)<=10 ^ 15:=CL (by decide) (by omega);have e4:(10:Nat) ^ 15=1000000000000000:=by decide
  refine⟨(u:Int), ?_⟩;simp only[Lib.atoiAll,Lib.parseMag];rw[if_neg (show ¬(c.toNat=43∨c.toNat=45) by omega),if_neg (show ¬(c::r=[]) by simp),e1];simp only;rw[if_neg (by omega),if_neg (by omega),if_neg (by omega)]
def ext_list (s:ByteArray) (a e:Nat):(s.extract a e).data.toList=(s.data.toList.drop a).take (e-a):=by rw[ByteArray.data_extract,Array.toList_extract]
def zgV {s:ByteArray} {a:Nat} (h:dgB (pk s a)=true):∃v,Lib.atoiAll (s.extract a (zaU s a 8 a)).data.toList=.ok v:=by
 obtain⟨h1,h2,h3,h4⟩:=zbp s a 8 a;have h5:=h3 (by omega);have aj:=dg_lt h;have hle:=h4 (by omega);have ah:a<zaU s a 8 a:=by
  have:zaU s a 8 a=zaU s a 7 (a+1):=by
   show (if _ then _ else _)=_
   rw[if_pos ⟨h,by omega,.inl rfl⟩]
  rw[this];exact (zbp s a 7 (a+1)).1
 rw[ext_list];have aF:s.data.toList.length=s.size:=rfl;refine atoi_dig (fun e => ?_) (fun c hc => ?_) ?_
 ·have:=congrArg List.length e;simp only[A3,Bp,BI] at this;omega
 ·obtain⟨j,hj,rfl⟩:=Bz hc;simp only[A3,Bp] at hj;have:=h2 (a+j) (by omega) (by omega);rw[(pk_at (show a+j<s.size by omega)).2] at this;simp only[List.getElem_take,DI,Array.getElem_toList];simp only[dgB,Ai,decide_eq_true_eq] at this;exact this
 ·rw[A3];omega
def zgM (s:ByteArray):∀(f:Nat) (m:Md) (at_:Nat) (l:List Node) (i a:Nat) (l':List Node),rd s f m at_ l=some (.ok i a l')->at_<=a
 | 0,_,_,_,_,_,_,h=>by cases h
 | f+1,.one,at_,l,i,a,l',h=>by
  simp only[rd] at h;split at h
  ·cases h
  split at h
  ·cases h;exact (zbp s at_ 8 at_).1
  split at h
  ·cases h;exact (zep s (s.size+1) at_).1
  split at h
  ·cases h
  cases hs:rd s f (.row true) (at_+1) l with
  | none=>rw[hs] at h;cases h
  | some r =>
   rw[hs] at h;cases r with
   | bad b=>cases h
   | ok j b l2 =>
    have:=zgM s f _ _ _ _ _ _ hs;simp only at h;split at h
    ·cases h
    ·cases h;omega
 | f+1,.row lv,at_,l,i,a,l',h=>by
  simp only[rd] at h;cases hs:rd s f (zfL lv) at_ l with
  | none=>rw[hs] at h;cases h
  | some r =>
   rw[hs] at h;cases r with
   | bad b=>cases h
   | ok j b l2 =>have h1:=zgM s f _ _ _ _ _ _ hs;have h2:=zgM s f _ _ _ _ _ _ h;omega
 | f+1,.more lv j0,at_,l,i,a,l',h=>by
  simp only[rd] at h;split at h
  ·cases h;exact Az _
  cases hs:rd s f (zfL lv) (at_+1) l with
  | none=>rw[hs] at h;cases h
  | some r =>
   rw[hs] at h;cases r with
   | bad b=>cases h
   | ok j b l2 =>
    have h1:=zgM s f _ _ _ _ _ _ hs;simp only at h;split at h
    ·cases h
    ·have h2:=zgM s f _ _ _ _ _ _ h;omega
end
section
open Go Go.RowKit
def ParseAt (S:Seat):Prop:=∀g,ql g S.fns=some 248->∃gc T,ql gc S.fns=some 241∧ql T S.tys=some 1 ∧
 (∀(s:ByteArray) (W:World),100<s.size->Calls S.P g #[.string s] W fun e W'=>e=.returned (.tuple #[.slice none 0 0,.int .i64 0,.iface T (.int .i64 4)])∧KeepO (fun _=>False) W W') ∧
 (∀(s:ByteArray) (f b:Nat) (W:World),s.size<=100->rd s f (.row true) 0 []=some (.bad b)->Calls S.P g #[.string s] W fun e W'=>e=.returned (.tuple #[.slice none 0 0,.int .i64 b,.iface T (.int .i64 2)])∧KeepO (fun _=>False) W W') ∧
 (∀(s:ByteArray) (f i b:Nat) (l:List Node) (W:World),s.size<=100->rd s f (.row true) 0 []=some (.ok i b l)->b<s.size->Calls S.P g #[.string s] W fun e W'=>e=.returned (.tuple #[.slice none 0 0,.int .i64 b,.iface T (.int .i64 2)])∧KeepO (fun _=>False) W W') ∧
 (∀(s:ByteArray) (f i b:Nat) (l:List Node) (W:World) (R:Value->Prop),s.size<=100->rd s f (.row true) 0 []=some (.ok i b l)->s.size<=b->(∀u,R u->∃T x,u=.iface T x) ->
  (∀(v:Value) (X:World),KeepO (fun _=>False) W X->q9 W.heap.size X v l->Calls S.P gc #[v] X fun e w'=>∃u,e=.returned u∧R u∧KeepO (fun _=>False) X w') ->
  Calls S.P g #[.string s] W fun e W'=>∃u,e=.returned (.tuple #[.slice none 0 0,.int .i64 0,u])∧R u∧KeepO (fun _=>False) W W') ∧
 ∀(s:ByteArray) (f i b:Nat) (l:List Node) (W:World),s.size<=100->rd s f (.row true) 0 []=some (.ok i b l)->s.size<=b ->
  (∀(v:Value) (X:World),KeepO (fun _=>False) W X->q9 W.heap.size X v l->Calls S.P gc #[v] X fun e w'=>e=.returned .nilIface∧KeepO (fun _=>False) X w') ->
  Calls S.P g #[.string s] W fun e W'=>∃v',e=.returned (.tuple #[v',.int .i64 0,.nilIface])∧q9 W.heap.size W' v' l∧KeepO (fun _=>False) W W'
def readS (s:ByteArray):Option PR:=rd s 404 (.row true) 0 []
def P248 (s:ByteArray):Option (List Node×Int×Err) :=
 if 100<s.size then some ([],0,.no 4) else
 match readS s with
 | none=>none
 | some (.bad b)=>some ([],(b:Int),.no 2)
 | some (.ok i b l)=>if b<s.size then some ([],(b:Int),.no 2) else bno (P241 l) fun e=>some (if Err.isNil e=true then l else [],0,e)
def k248:CSpec:=⟨248,[.str],.tp [(.sl .node),.int,.err],fun x=>P248 x,false,[]⟩
def r248 {S:Seat} (hP:Plain S) (h:ParseAt S) (r6:Rt S k241):Rt S k248:=fun (s:ByteArray) (y:List Node×Int×Err) hy=>by
 have hy:P248 s=some y:=hy;intro g hg;show wY S g [.v (.string s)] (.tup [.sl 5 (y.1.map Node.cs),aI y.2.1,y.2.2.av]) [];refine zgL (fun A w vs hl hA ha => ?_) (by simp[zG]);obtain⟨x0,rfl⟩:∃x0,vs=#[x0]:=by
  obtain⟨r⟩:=vs
  match r,hl with
  | [x0],_=>exact⟨x0,rfl⟩
 obtain rfl:x0=.string s:=VR.v_inv (σ:=fun _=>none) (.of0 (ha 0 _ rfl));obtain⟨gc,T,hgc,hT,h1,h2,h3,h4,h5⟩:=h g hg
 have fin:∀ {w':World} {v u:Value} {r:List Node} {b:Int} {e:Err},KeepO (fun _=>False) w w'->q9 w.heap.size w' v r->ErrIs S e u ->
   zdm S A w w' (.tup [.sl 5 (r.map Node.cs),aI b,e.av]) (.tuple #[v,.int .i64 b,u]):=fun {w' v u r b e} hk hv hu=>by
  refine⟨fun _=>none,by simp,by simp,#[v,.int .i64 b,u],rfl,rfl,fun i x hx => ?_⟩
  match i,hx with
  | 0,hx=>cases hx;exact⟨rfl,zfX (fun b h1 h2=>⟨.inr h1,h2,by simp⟩) hv⟩
  | 1,hx=>cases hx;exact⟨rfl,.v _⟩
  | 2,hx =>
   cases hx;cases e with
   | nil=>obtain rfl:=hu;exact⟨rfl,.v _⟩
   | no n=>obtain⟨T,rfl,hT⟩:=hu;exact⟨rfl,.ifc hT (.v _)⟩
   | oth k=>obtain⟨T,x,rfl,hT⟩:=hu;exact⟨rfl,.ifc hT (.bot _)⟩
  | i+3,hx=>simp at hx
 unfold P248 readS at hy;by_cases hs:100<s.size
 ·rw[if_pos hs] at hy;obtain rfl:=Option.some.inj hy;refine (h1 s w hs).mono ?_;rintro e' w' ⟨rfl,hk⟩;exact⟨_,rfl,hk,fin hk (.inl ⟨rfl,rfl⟩) ⟨T,rfl,hT⟩⟩
 rw[if_neg hs] at hy;have hs:s.size<=100:=by omega
 cases hr:rd s 404 (.row true) 0 [] with
 | none=>rw[hr] at hy;cases hy
 | some p =>
 rw[hr] at hy;cases p with
 | bad b =>obtain rfl:=Option.some.inj hy;refine (h2 s _ b w hs hr).mono ?_;rintro e' w' ⟨rfl,hk⟩;exact⟨_,rfl,hk,fin hk (.inl ⟨rfl,rfl⟩) ⟨T,rfl,hT⟩⟩
 | ok i b l =>
  simp only at hy;by_cases hb:b<s.size
  ·rw[if_pos hb] at hy;obtain rfl:=Option.some.inj hy;refine (h3 s _ i b l w hs hr hb).mono ?_;rintro e' w' ⟨rfl,hk⟩;exact⟨_,rfl,hk,fin hk (.inl ⟨rfl,rfl⟩) ⟨T,rfl,hT⟩⟩
  rw[if_neg hb] at hy;have hb:s.size<=b:=by omega
  obtain⟨e,he,hy⟩:=ws hy;have eN:=r6 l e he;have bd:∀(v:Value) (X:World),KeepO (fun _=>False) w X->q9 w.heap.size X v l->Calls S.P gc #[v] X fun e' w'=>∃u,e'=.returned u∧ErrIs S e u∧KeepO (fun _=>False) X w':=by
   intro v X hk hN;have h0:VR0 S (fun b=>b<X.heap.size) X (.sl 5 (l.map Node.cs)) v:=zfX (fun b _ h=>h) hN
   have:=(show wY S gc [.sl 5 (l.map Node.cs)] e.av [] from eN gc hgc).old0 hP (by simp[zG]) (fun b=>b<X.heap.size) X #[v] rfl
    ⟨fun b hb=>hb,hA.2.keep (fun _ _=>fun e=>e) hk⟩ fun i x hx=>by
     match i,hx with
     | 0,hx=>cases hx;exact h0
     | i+1,hx=>simp at hx
   refine this.mono ?_;rintro e' w' ⟨u,rfl,aA,β,_,_,hp⟩;refine⟨u,rfl, ?_,aA⟩;cases e with
   | nil=>exact VR.v_inv (σ:=fun _=>none) (.of0 (show zap S _ _ (β 0) (.v .nilIface) u from hp).2)
   | no n =>
    have h2:=(show zap S _ _ (β 0) (.ifc 1 (aI n)) u from hp).2;cases h2 with
    | ifc hT hv=>exact⟨_,by rw[VR.v_inv (σ:=fun _=>none) (.of0 hv)],hT⟩
   | oth k =>
    have h2:=(show zap S _ _ (β 0) (.ifc k .bot) u from hp).2;cases h2 with
    | ifc hT hv=>exact⟨_,_,rfl,hT⟩
  by_cases cU:Err.isNil e=true
  ·obtain rfl:e=.nil:=by cases e<;>simp_all[Err.isNil]
   obtain rfl:=Option.some.inj hy;refine (h5 s _ i b l w hs hr hb fun v X hk hN=>(bd v X hk hN).mono ?_).mono ?_
   ·rintro e' w' ⟨u,rfl,rfl,hk⟩;exact⟨rfl,hk⟩
   ·rintro e' w' ⟨v,rfl,hv,hk⟩;exact⟨_,rfl,hk,fin hk hv rfl⟩
  ·rw[if_neg cU] at hy;obtain rfl:=Option.some.inj hy;refine (h4 s _ i b l w (ErrIs S e) hs hr hb (fun u hu => ?_) bd).mono ?_
   ·cases e with
    | nil=>simp[Err.isNil] at cU
    | no n=>obtain⟨T,rfl,_⟩:=hu;exact⟨_,_,rfl⟩
    | oth k=>obtain⟨T,x,rfl,_⟩:=hu;exact⟨_,_,rfl⟩
   ·rintro e' w' ⟨u,rfl,hu,hk⟩;exact⟨_,rfl,hk,fin hk (.inl ⟨rfl,rfl⟩) hu⟩
end
section
open Go Go.RowKit
def P247 (s:ByteArray):Option (List Node×Int×Int) :=
 if 100<s.size then some ([],0,4) else
 match rd s 404 (.row true) 0 [] with
 | none=>none
 | some (.bad b)=>some ([],(b:Int),2)
 | some (.ok i b l)=>if b<s.size then some ([],(b:Int),2) else bno (P240 l) fun e=>some (if e=0 then l else [],0,e)
end
end Ab
