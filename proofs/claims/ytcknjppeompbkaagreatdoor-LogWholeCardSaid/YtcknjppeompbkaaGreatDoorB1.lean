import Derived.Test.YtcknjppeompbkaaGreatDoorA3
open List (all_map)
set_option linter.all false
noncomputable section
namespace Ab
open Go
section
structure Cell where
 k:Int
 n:Int
 deriving DecidableEq,Inhabited
structure Member where
 name:ByteArray
 parent:Int
 sign:Int
 formula:ByteArray
 deriving DecidableEq,Inhabited
structure Dim where
 name:ByteArray
 solve:Int
 members:List Member
 deriving DecidableEq,Inhabited
structure Node where
 op:Int
 n:Int
 name:ByteArray
 left:Int
 right:Int
 deriving DecidableEq,Inhabited
structure Entry where
 at_:List Int
 n:Int
 deriving DecidableEq,Inhabited
structure Edit where
 at_:List Int
 n:Int
 clear:Bool
 deriving DecidableEq,Inhabited
structure Change where
 what:Int
 dim:Int
 member:Int
 name:ByteArray
 to:Int
 sign:Int
 deriving DecidableEq,Inhabited
structure Grid where
 rows:List Int
 cols:List Int
 cells:List (List Cell)
 deriving DecidableEq,Inhabited
structure Sent where
 place:ByteArray
 n:Int
 line:Int
 deriving DecidableEq,Inhabited
structure Solver where
 o:List Dim
 l:List Entry
 f:List (List (Option (List Node)))
 kb:Nat
 cb:Nat
 kc:Nat
 cc:Nat
 n:Nat
 deriving Inhabited
inductive Err where
 | nil
 | no (n:Int)
 | oth (t:Nat)
 deriving DecidableEq,Inhabited
def Err.isNil:Err->Bool
 | .nil=>true
 | _=>false
inductive Ty where
 | int | u8 | bool | str | cell | member | dim | outl | node | entry | edit | change | grid | sent | solver | psolver
 | sl (t:Ty)
 | ns (t:Ty)
 deriving DecidableEq,Inhabited
@[reducible] def Ty.den:Ty->Type
 | .int=>Int
 | .u8=>UInt8
 | .bool=>Bool
 | .str=>ByteArray
 | .cell=>Cell
 | .member=>Member
 | .dim=>Dim
 | .outl=>List Dim
 | .node=>Node
 | .entry=>Entry
 | .edit=>Edit
 | .change=>Change
 | .grid=>Grid
 | .sent=>Sent
 | .solver=>Solver
 | .psolver=>Solver
 | .sl t=>List t.den
 | .ns t=>Option (List t.den)
def Ty.z:Ty->Nat
 | .cell | .entry=>2
 | .member=>4
 | .dim | .edit | .grid | .sent=>3
 | .node | .solver=>5
 | .change=>6
 | _=>1
def aI (n:Int):AV:=.v (.int .i64 n)
def aU (n:Int):AV:=.v (.int .u8 n)
def aB (b:Bool):AV:=.v (.bool b)
def aS (s:ByteArray):AV:=.v (.string s)
def aN:AV:=.v (.slice none 0 0)
def Err.av:Err->AV
 | .nil=>.v .nilIface
 | .no n=>.ifc 1 (aI n)
 | .oth t=>.ifc t .bot
def Cell.cs (c:Cell):List AV:=[aI c.k,aI c.n]
def Member.cs (m:Member):List AV:=[aS m.name,aI m.parent,aI m.sign,aS m.formula]
def Dim.cs (d:Dim):List AV:=[aS d.name,aI d.solve,.sl 4 (d.members.map Member.cs)]
def Node.cs (x:Node):List AV:=[aI x.op,aI x.n,aS x.name,aI x.left,aI x.right]
def Entry.cs (e:Entry):List AV:=[.sl 1 (e.at_.map fun n=>[aI n]),aI e.n]
def Edit.cs (e:Edit):List AV:=[.sl 1 (e.at_.map fun n=>[aI n]),aI e.n,aB e.clear]
def Change.cs (c:Change):List AV:=[aI c.what,aI c.dim,aI c.member,aS c.name,aI c.to,aI c.sign]
def Grid.cs (g:Grid):List AV:=[.sl 1 (g.rows.map fun n=>[aI n]),.sl 1 (g.cols.map fun n=>[aI n]),.sl 1 (g.cells.map fun l=>[.sl 2 (l.map Cell.cs)])]
def Sent.cs (e:Sent):List AV:=[aS e.place,aI e.n,aI e.line]
@[reducible] def rowV (b n c:Nat):Value:=.slice (some ⟨b,0,none⟩) n c
def fCells (f:List (List (Option (List Node)))):AV:=.sl 1 (f.map fun r=>[.sl 1 (r.map fun x=>match x with | none=>[aN] | some l=>[.sl 5 (l.map Node.cs)])])
def Solver.cs (s:Solver):List AV:=[.sl 3 (s.o.map Dim.cs),.sl 2 (s.l.map Entry.cs),fCells s.f,.v (rowV s.kb s.n s.kc),.v (rowV s.cb s.n s.cc)]
def Ty.cells:(t:Ty)->t.den->List AV
 | .int,n=>[aI n]
 | .u8,b=>[aU b.toNat]
 | .bool,b=>[aB b]
 | .str,s=>[aS s]
 | .cell,c=>Cell.cs c
 | .member,m=>Member.cs m
 | .dim,d=>Dim.cs d
 | .outl,o=>[.sl 3 (List.map Dim.cs o)]
 | .node,x=>Node.cs x
 | .entry,e=>Entry.cs e
 | .edit,e=>Edit.cs e
 | .change,c=>Change.cs c
 | .grid,g=>Grid.cs g
 | .sent,e=>Sent.cs e
 | .solver,s=>Solver.cs s
 | .psolver,s=>[.ep (Solver.cs s) 0]
 | .sl t,xs=>[.sl t.z (List.map t.cells xs)]
 | .ns _,none=>[aN]
 | .ns t,some xs=>[.sl t.z (List.map t.cells xs)]
inductive TV where
 | bot | ud
 | k (x:Value)
 | i (n:Int)
 | u (n:Int)
 | b (x:Bool)
 | s (x:ByteArray)
 | nl
 | e (x:Err)
 | sl (t:Ty) (xs:List t.den)
 | ns (t:Ty) (x:Option (List t.den))
 | ep (t:Ty) (x:t.den) (off:Nat)
 | pv (s off:Nat)
 | pe (s v i off:Nat)
 | lw (s v:Nat)
 | ls (s v off len:Nat)
 | ag (cs:List TV)
 | tp (vs:List TV)
 | fn (f:Nat) (caps:List TV)
 deriving Inhabited
inductive TB where
 | gone
 | var (cs:List TV)
 | row (v:Nat) (t:Ty) (xs:List t.den)
 | frz (v:Nat) (t:Ty) (xs:List t.den)
 deriving Inhabited
abbrev THp:=List (Nat×TB)
structure TSt where
 fr:List (Nat×TV)
 hp:THp
 ctr:Nat
 deriving Inhabited
def look {α:Type} (k:Nat) (dflt:α):List (Nat×α)->α
 | []=>dflt
 | (a,x) :: r=>match Nat.beq a k with | true=>x | false=>look k dflt r
def TSt.put (s:TSt) (d:Nat) (x:TV):TSt:={ s with fr:=(d,x) :: s.fr }
def TSt.putO (s:TSt) (d:Option Nat) (x:TV):TSt:=match d with | some d=>s.put d x | none=>s
def TSt.push (s:TSt) (h:THp):TSt:={ s with hp:=h++s.hp,ctr:=s.ctr+1 }
def lv1 (h:THp) (x:TV):TV :=
 match x with
 | .lw s v=>match look s .gone h with
  | .row v' _ _=>(match Nat.beq v v' with | true=>.lw s v | false=>.bot)
  | .frz v' t xs=>(match Nat.beq v v' with | true=>.sl t xs | false=>.bot)
  | _=>.bot
 | .ls s v off len=>match look s .gone h with
  | .row v' _ _=>(match Nat.beq v v' with | true=>.ls s v off len | false=>.bot)
  | _=>.bot
 | .pe s v i off=>match look s .gone h with
  | .row v' _ _=>(match Nat.beq v v' with | true=>.pe s v i off | false=>.bot)
  | _=>.bot
 | .pv s off=>match look s .gone h with
  | .var _=>.pv s off
  | _=>.bot
 | .ag _ | .tp _ | .fn _ _=>.bot
 | x=>x
def ze (h:THp) (x:TV):Bool :=
 match x with
 | .lw s v=>match look s .gone h with
  | .row v' _ _=>Nat.beq v v'
  | .frz v' _ _=>Nat.beq v v'
  | _=>false
 | .ls s v _ _ | .pe s v _ _=>match look s .gone h with
  | .row v' _ _=>Nat.beq v v'
  | _=>false
 | .pv s _=>match look s .gone h with
  | .var _=>true
  | _=>false
 | .ag _ | .tp _ | .fn _ _=>false
 | _=>true
def lv2 (h:THp) (x:TV):TV :=
 match x with
 | .ag cs=>match cs.all (ze h) with | true=>.ag (cs.map (lv1 h)) | false=>.bot
 | x=>lv1 h x
def zy (h:THp) (x:TV):Bool :=
 match x with
 | .ag cs=>cs.all (ze h)
 | x=>ze h x
def lv (h:THp) (x:TV):TV :=
 match x with
 | .tp vs=>match vs.all (zy h) with | true=>.tp (vs.map (lv2 h)) | false=>.bot
 | .fn f vs=>match vs.all (zy h) with | true=>.fn f (vs.map (lv2 h)) | false=>.bot
 | x=>lv2 h x
def av1 (h:THp) (x:TV):AV :=
 match x with
 | .bot=>.bot
 | .ud=>Ab.ud
 | .k x=>.v x
 | .i n=>aI n
 | .u n=>aU n
 | .b x=>aB x
 | .s x=>aS x
 | .nl=>aN
 | .e x=>x.av
 | .sl t xs=>.sl t.z (xs.map t.cells)
 | .ns _ none=>aN
 | .ns t (some xs)=>.sl t.z (xs.map t.cells)
 | .ep t x off=>.ep (t.cells x) off
 | .pv s off=>.pv s off
 | .pe s _ i off=>match look s .gone h with
  | .row _ t _=>.pe s t.z i off
  | _=>.bot
 | .lw s _=>match look s .gone h with
  | .row _ t xs=>.lsl s t.z 0 xs.length
  | _=>.bot
 | .ls s _ off len=>match look s .gone h with
  | .row _ t _=>.lsl s t.z off len
  | _=>.bot
 | .ag _ | .tp _ | .fn _ _=>.bot
def av2 (h:THp) (x:TV):AV :=
 match x with
 | .ag cs=>.agg (cs.map (av1 h))
 | x=>av1 h x
def av (h:THp) (x:TV):AV :=
 match x with
 | .tp vs=>.tup (vs.map (av2 h))
 | .fn f vs=>.fn f (vs.map (av2 h))
 | x=>av2 h x
def blk (h:THp) (b:TB):Option Blk :=
 match b with
 | .var cs=>some (.var (cs.map fun x=>av1 h (lv1 h x)))
 | .row _ t xs=>some (.arr t.z (xs.map t.cells))
 | .gone | .frz _ _ _=>none
def TSt.toA (s:TSt):ASt:={ fr:=fun k=>av s.hp (lv s.hp (look k .bot s.fr)),hp:=fun k=>blk s.hp (look k .gone s.hp) }
inductive Sh where
 | int | u8 | bool | str | err | unit
 | sl (t:Ty)
 | ns (t:Ty)
 | st (t:Ty)
 | bx (t:Ty)
 | own (t:Ty)
 | fnc (id:Nat) (caps:List Sh)
 | tp (l:List Sh)
 deriving Inhabited
mutual
@[reducible] def Sh.den:Sh->Type
 | .int=>Int
 | .u8=>Int
 | .bool=>Bool
 | .str=>ByteArray
 | .err=>Err
 | .unit=>Unit
 | .sl t=>List t.den
 | .ns t=>Option (List t.den)
 | .st t=>t.den
 | .bx t=>t.den
 | .own t=>List t.den
 | .fnc _ caps=>Sh.denL caps
 | .tp l=>Sh.denL l
@[reducible] def Sh.denL:List Sh->Type
 | []=>Unit
 | [x]=>x.den
 | x :: y :: r=>x.den×Sh.denL (y :: r)
end
end
section
section
variable {α β σ:Type}
def br (b:Bool) (x y:Option α):Option α:=match b with | true=>x | false=>y
def ck (b:Bool) (x:Option α):Option α:=match b with | true=>x | false=>none
def bnd (x:β) (k:β->Option α):Option α:=k x
def bno (x:Option β) (k:β->Option α):Option α:=match x with | some y=>k y | none=>none
def qb (xs:List β) (n:Int):Option β:=if 0<=n then xs[n.toNat]? else none
def jn (x:Option (Sum σ α)) (k:σ->Option α):Option α :=
 match x with
 | some (.inl y)=>k y
 | some (.inr a)=>some a
 | none=>none
def zD (x:Option σ):Option (Sum σ α):=match x with | some y=>some (.inl y) | none=>none
def zfZ (x:Option α):Option (Sum σ α):=match x with | some y=>some (.inr y) | none=>none
inductive LR (σ α:Type) where
 | nx (x:σ)
 | dn (x:σ)
 | fin (a:α)
def nxO (x:Option σ):Option (LR σ α):=match x with | some y=>some (.nx y) | none=>none
def dnO (x:Option σ):Option (LR σ α):=match x with | some y=>some (.dn y) | none=>none
def wj (x:Option α):Option (LR σ α):=match x with | some y=>some (.fin y) | none=>none
def lpN (B:σ->Option (LR σ α)):Nat->σ->Option (Sum σ α)
 | 0,_=>none
 | n+1,x=>match B x with
  | some (.nx y)=>lpN B n y
  | some (.dn y)=>some (.inl y)
  | some (.fin a)=>some (.inr a)
  | none=>none
open Classical in
def lpO (B:σ->Option (LR σ α)) (x:σ):Option (Sum σ α):=if h:∃ n,(lpN B n x).isSome=true then lpN B (Classical.choose h) x else none
def lp (B:σ->Option (LR σ α)) (x:σ) (k:σ->Option α):Option α:=jn (lpO B x) k
end
def tvs:(t:Ty)->t.den->List TV
 | .int,n=>[.i n]
 | .u8,b=>[.u b.toNat]
 | .bool,b=>[.b b]
 | .str,s=>[.s s]
 | .cell,c=>[.i (Cell.k c),.i (Cell.n c)]
 | .member,m=>[.s (Member.name m),.i (Member.parent m),.i (Member.sign m),.s (Member.formula m)]
 | .dim,d=>[.s (Dim.name d),.i (Dim.solve d),.sl .member (Dim.members d)]
 | .outl,o=>[.sl .dim o]
 | .node,x=>[.i (Node.op x),.i (Node.n x),.s (Node.name x),.i (Node.left x),.i (Node.right x)]
 | .entry,e=>[.sl .int (Entry.at_ e),.i (Entry.n e)]
 | .edit,e=>[.sl .int (Edit.at_ e),.i (Edit.n e),.b (Edit.clear e)]
 | .change,c=>[.i (Change.what c),.i (Change.dim c),.i (Change.member c),.s (Change.name c),.i (Change.to c),.i (Change.sign c)]
 | .grid,g=>[.sl .int (Grid.rows g),.sl .int (Grid.cols g),.sl (.sl .cell) (Grid.cells g)]
 | .sent,e=>[.s (Sent.place e),.i (Sent.n e),.i (Sent.line e)]
 | .solver,s=>[.sl .dim (Solver.o s),.sl .entry (Solver.l s),.sl (.sl (.ns .node)) (Solver.f s),.k (rowV (Solver.kb s) (Solver.n s) (Solver.kc s)),.k (rowV (Solver.cb s) (Solver.n s) (Solver.cc s))]
 | .psolver,s=>[.ep .solver s 0]
 | .sl t,xs=>[.sl t xs]
 | .ns t,x=>[.ns t x]
def zbw {t:Ty} (t':Ty) (xs:List t.den):Option (List t'.den):=if h:t=t' then some (h ▸ xs) else none
def castE {t:Ty} (t':Ty) (x:t.den):Option t'.den:=if h:t=t' then some (h ▸ x) else none
def ql (h:THp) (x:TV):TV :=
 match x with
 | .lw s _=>match look s .gone h with
  | .row _ t xs=>.sl t xs
  | _=>.bot
 | .ls _ _ _ _ | .pv _ _ | .pe _ _ _ _=>.bot
 | x=>x
def dI:TV->Option Int
 | .i n=>some n
 | _=>none
def dU:TV->Option Int
 | .u n=>some n
 | _=>none
def dB:TV->Option Bool
 | .b n=>some n
 | _=>none
def dS:TV->Option ByteArray
 | .s n=>some n
 | _=>none
def dE:TV->Option Err
 | .e n=>some n
 | _=>none
def dSl (t:Ty):TV->Option (List t.den)
 | .nl=>some []
 | .sl _ xs=>zbw t xs
 | .ns _ x=>zbw t (x.getD [])
 | _=>none
def dNs (t:Ty):TV->Option (Option (List t.den))
 | .nl=>some none
 | .sl _ xs=>match zbw t xs with | some ys=>some (some ys) | none=>none
 | .ns t' x=>castE (.ns t) (t:=.ns t') x
 | _=>none
def ziC:(t:Ty)->List TV->Option t.den
 | .int,[a]=>dI a
 | .bool,[a]=>dB a
 | .str,[a]=>dS a
 | .cell,[a,b]=>match dI a,dI b with | some a,some b=>some (Cell.mk a b) | _,_=>none
 | .member,[a,b,c,d]=>match dS a,dI b,dI c,dS d with | some a,some b,some c,some d=>some (Member.mk a b c d) | _,_,_,_=>none
 | .dim,[a,b,c]=>match dS a,dI b,dSl .member c with | some a,some b,some c=>some (Dim.mk a b c) | _,_,_=>none
 | .outl,[a]=>dSl .dim a
 | .node,[a,b,c,d,e]=>match dI a,dI b,dS c,dI d,dI e with | some a,some b,some c,some d,some e=>some (Node.mk a b c d e) | _,_,_,_,_=>none
 | .entry,[a,b]=>match dSl .int a,dI b with | some a,some b=>some (Entry.mk a b) | _,_=>none
 | .edit,[a,b,c]=>match dSl .int a,dI b,dB c with | some a,some b,some c=>some (Edit.mk a b c) | _,_,_=>none
 | .change,[a,b,c,d,e,f]=>match dI a,dI b,dI c,dS d,dI e,dI f with | some a,some b,some c,some d,some e,some f=>some (Change.mk a b c d e f) | _,_,_,_,_,_=>none
 | .grid,[a,b,c]=>match dSl .int a,dSl .int b,dSl (.sl .cell) c with | some a,some b,some c=>some (Grid.mk a b c) | _,_,_=>none
 | .sent,[a,b,c]=>match dS a,dI b,dI c with | some a,some b,some c=>some (Sent.mk a b c) | _,_,_=>none
 | .psolver,[a]=>match a with | .ep _ x 0=>castE .solver x | _=>none
 | .sl t,[a]=>dSl t a
 | .ns t,[a]=>dNs t a
 | _,_=>none
def ok1:TV->Bool
 | .bot | .ud | .ag _ | .tp _ | .fn _ _=>false
 | .k x=>match x with | .nilFunc | .pointer none | .slice (some _) _ _=>true | _=>false
 | _=>true
def wS:TV->Option (List TV)
 | .ag cs=>match cs.all ok1 with | true=>some cs | false=>none
 | x=>match ok1 x with | true=>some [x] | false=>none
def zdD (cs:List TV) (off:Nat):Option Nat->Option TV
 | none=>match cs[off]? with | some x=>(match ok1 x with | true=>some x | false=>none) | none=>none
 | some n=>match Nat.ble (off+n) cs.length with | true=>some (.ag ((cs.drop off).take n)) | false=>none
def ovw (cs:List TV) (off:Nat) (new:List TV):List TV:=cs.take off++new++cs.drop (off+new.length)
mutual
def dec (h:THp):(sh:Sh)->TV->Option sh.den
 | .int,v=>dI v
 | .u8,v=>dU v
 | .bool,v=>dB v
 | .str,v=>dS v
 | .err,v=>dE v
 | .unit,v=>match v with | .tp []=>some () | _=>none
 | .sl t,v=>dSl t (ql h v)
 | .ns t,v=>dNs t (ql h v)
 | .st t,v=>match v with | .ag cs=>ziC t (cs.map (ql h)) | _=>none
 | .bx t,v=>match v with
  | .ep _ x 0=>castE t x
  | .pv s 0=>match look s .gone h with | .var cs=>ziC t (cs.map fun x=>ql h (lv1 h x)) | _=>none
  | _=>none
 | .own _,_=>none
 | .fnc id caps,v=>match v with | .fn f vs=>(match Nat.beq id f with | true=>wy h caps vs | false=>none) | _=>none
 | .tp l,v=>match v with | .tp vs=>wy h l vs | _=>none
def wy (h:THp):(l:List Sh)->List TV->Option (Sh.denL l)
 | [],[]=>some ()
 | [x],[v]=>dec h x v
 | x :: y :: r,v :: vs=>match dec h x v,wy h (y :: r) vs with | some a,some b=>some (a,b) | _,_=>none
 | _,_=>none
end
mutual
def enc:(sh:Sh)->sh.den->TV
 | .int,n=>.i n
 | .u8,n=>.u n
 | .bool,b=>.b b
 | .str,s=>.s s
 | .err,e=>.e e
 | .unit,_=>.tp []
 | .sl t,xs=>.sl t xs
 | .ns t,x=>.ns t x
 | .st t,x=>.ag (tvs t x)
 | .bx t,x=>.ep t x 0
 | .own t,xs=>.sl t xs
 | .fnc id caps,x=>.fn id (jE caps x)
 | .tp l,x=>.tp (jE l x)
def jE:(l:List Sh)->Sh.denL l->List TV
 | [],_=>[]
 | [x],v=>[enc x v]
 | x :: y :: r,v=>enc x v.1 :: jE (y :: r) v.2
end
structure CSpec where
 f:Nat
 sig:List Sh
 res:Sh
 fn:Sh.denL sig->Option res.den
 tot:Bool
 muts:List Nat:=[]
def Sh.flat:Sh->Bool
 | .int | .u8 | .bool | .str | .err | .st .cell | .st .member | .st .node | .st .change | .st .sent=>true
 | _=>false
def Sh.plain:Sh->Bool
 | .unit=>true
 | .tp l=>l.all Sh.flat
 | x=>x.flat
def Sh.ans1:Sh->Bool
 | .fnc _ _ | .tp _ | .unit=>false
 | _=>true
def Sh.ans:Sh->Bool
 | .fnc _ _=>false
 | .tp l=>l.all Sh.ans1
 | _=>true
def Sh.own1:Sh->Bool
 | .own _=>true
 | _=>false
def Sh.ansC:Sh->Bool
 | .fnc _ caps=>caps.all fun s=>s.ans1 && !s.own1
 | x=>x.ans
def Sh.owns:Sh->Bool
 | .own _=>true
 | .tp l=>l.any Sh.own1
 | _=>false
def rf1:TV->List Nat
 | .lw s _ | .ls s _ _ _ | .pe s _ _ _ | .pv s _=>[s]
 | _=>[]
def rf2:TV->List Nat
 | .ag cs=>cs.flatMap rf1
 | x=>rf1 x
def rf:TV->List Nat
 | .tp vs | .fn _ vs=>vs.flatMap rf2
 | x=>rf2 x
def frzs (h:THp):List Nat->Option THp
 | []=>some []
 | s :: r=>match look s .gone h with
  | .row v t xs=>match zav s,frzs ((s,.frz v t xs) :: h) r with | false,some hs=>some (hs++[(s,.frz v t xs)]) | _,_=>none
  | .frz _ _ _=>frzs h r
  | .gone=>frzs h r
  | _=>none
def gN:TB->Bool
 | .gone=>true
 | _=>false
def cl1 (d:Nat) (b:TB) (x:TV):Bool :=
 match x,b with
 | .pv s _,.var _=>Nat.beq s d
 | .lw s v,.row n _ _ | .ls s v _ _,.row n _ _ | .pe s v _ _,.row n _ _=>Nat.beq s d && Nat.beq v n
 | _,_=>false
def cl2 (d:Nat) (b:TB) (x:TV):Bool :=
 match x with
 | .ag cs=>cs.any (cl1 d b)
 | x=>cl1 d b x
def cl (d:Nat) (b:TB) (x:TV):Bool :=
 match x with
 | .tp vs | .fn _ vs=>vs.any (cl2 d b)
 | x=>cl2 d b x
def jy (d:Nat) (b:TB) (s:TSt):Bool :=
 s.fr.all (fun p => !cl d b p.2) && s.hp.all (fun p=>match p.2 with | .var cs=>cs.all (fun x => !cl1 d b x) | _=>true)
def freeV (d:Nat) (s:TSt):Bool:=gN (look d .gone s.hp) && jy d (.var []) s
def dF (d n:Nat) (s:TSt):Bool:=gN (look d .gone s.hp) && jy d (.row n .int []) s
def zcT:TV->Bool
 | .nl | .ns _ _=>false
 | _=>true
def exq (q:Bool) (cs:List TV):Bool := !q || cs.all zcT
def zfJ (s:TSt) (n d:Nat):(i:Nat)->(l:List Sh)->Sh.denL l->Option (List TV×THp)
 | _,[],_=>some ([],[])
 | i,[.own t],xs=>match dF (d+10000 * (i+1)) n s with | true=>some ([.lw (d+10000 * (i+1)) n],[(d+10000 * (i+1),.row n t xs)]) | false=>none
 | _,[x],v=>some ([enc x v],[])
 | i,.own t :: y :: r,v=>match dF (d+10000 * (i+1)) n s,zfJ s n d (i+1) (y :: r) v.2 with
  | true,some (ys,hs)=>some (.lw (d+10000 * (i+1)) n :: ys,hs++[(d+10000 * (i+1),.row n t v.1)])
  | _,_=>none
 | i,x :: y :: r,v=>match zfJ s n d (i+1) (y :: r) v.2 with | some (ys,hs)=>some (enc x v.1 :: ys,hs) | none=>none
def opn (s:TSt) (n d:Nat):(sh:Sh)->sh.den->Option (TV×THp)
 | .own t,xs=>match dF d n s with | true=>some (.lw d n,[(d,.row n t xs)]) | false=>none
 | .tp l,x=>match zfJ s n d 0 l x with | some (ys,hs)=>some (.tp ys,hs) | none=>none
 | sh,x=>some (enc sh x,[])
section
variable {α:Type}
def ansT (q:Bool) (c:CSpec) (d:Nat) (s:TSt) (x:Sh.denL c.sig) (k:TV->THp->Option α):Option α :=
 match (q && c.res.owns) || !c.res.ansC with
 | true=>none
 | false=>match c.tot with
  | true=>match c.fn x with
   | some y=>bnd y fun y=>match opn s s.ctr d c.res y with | some (v,hs)=>k v hs | none=>none
   | none=>none
  | false=>bno (c.fn x) fun y=>match opn s s.ctr d c.res y with | some (v,hs)=>k v hs | none=>none
def fg (C:List CSpec) (q fz:Bool) (f:Nat) (args:TSt->List TV) (d:Nat) (s:TSt) (k:TV->THp->Option α):Option α :=
 match C with
 | []=>none
 | c :: r =>
  match Nat.beq c.f f && c.muts.isEmpty with
  | false=>fg r q fz f args d s k
  | true =>
   match wy s.hp c.sig (args s) with
   | none=>fg r q fz f args d s k
   | some x =>
    match c.res.plain || ((args s).flatMap rf).isEmpty with
    | true=>ansT q c d s x k
    | false=>match q || !fz with
     | true=>none
     | false=>match frzs s.hp ((args s).flatMap rf) with
      | none=>none
      | some h1=>match wy (s.push h1).hp c.sig (args (s.push h1)),((args (s.push h1)).flatMap rf).isEmpty with
       | some x,true=>ansT q c d (s.push h1) x fun v hs=>k v (hs++h1)
       | _,_=>none
end
def eqN:List Nat->List Nat->Bool
 | [],[]=>true
 | a :: r,b :: l=>Nat.beq a b && eqN r l
 | _,_=>false
def memN (k:Nat):List Nat->Bool
 | []=>false
 | a :: r=>match Nat.beq a k with | true=>true | false=>memN k r
def fnOkT (h:THp):TV->Bool
 | .fn _ vs=>vs.all fun x=>match x with
  | .pv s _=>(match look s .gone h with | .var cs=>cs.all fun c=>(rf1 (lv1 h c)).isEmpty | _=>false)
  | x=>(rf2 x).isEmpty
 | _=>false
def decM1 (h:THp) (sm:Bool) (hd:Bool):(sh:Sh)->TV->Option sh.den
 | .own t,v=>match hd,v with
  | true,.lw s _=>(match look s .gone h with | .row _ _ xs=>zbw t xs | _=>none)
  | _,_=>none
 | sh,v=>match hd,rf v with
  | false,[]=>dec h sh v
  | false,_ :: _=>(match sm && fnOkT h v with | true=>dec h sh v | false=>none)
  | _,_=>none
def restM (muts:List Nat):Nat->List TV->List Nat
 | _,[]=>[]
 | i,v :: r=>(match zj muts i with | true=>[] | false=>rf v)++restM muts (i+1) r
def intOut:Sh->Bool
 | .own .int=>true
 | _=>false
def decM (h:THp) (muts:List Nat):Nat->(l:List Sh)->List TV->Option (Sh.denL l)
 | _,[],[]=>some ()
 | i,[x],[v]=>decM1 h (zaM muts) (zj muts i) x v
 | i,x :: y :: r,v :: vs=>match decM1 h (zaM muts) (zj muts i) x v,decM h muts (i+1) (y :: r) vs with | some a,some b=>some (a,b) | _,_=>none
 | _,_,_=>none
def yG (hd:Bool) (v:TV):List Nat:=match hd,v with
 | true,.lw s _=>[s]
 | _,_=>[]
def hsT (muts:List Nat):Nat->List TV->List Nat
 | _,[]=>[]
 | i,v :: r=>yG (zj muts i) v++hsT muts (i+1) r
def esT (muts:List Nat):Nat->List TV->List Nat
 | _,[]=>[]
 | i,v :: r=>yG (zj muts i && !muts.contains i) v++esT muts (i+1) r
def yM:List Nat->THp
 | []=>[]
 | s :: l=>yM l++[(s,.gone)]
section
variable {α:Type}
def finM (s:TSt) (muts:List Nat) (args:List TV) (sh:Sh) (y:sh.den) (k:TV->THp->Option α):Option α :=
 match jc muts,esT muts 0 args with
 | [i],[]=>(match args[i]? with
  | some (.lw s0 _)=>(match look s0 .gone s.hp with
   | .row v t xs=>(match sh,y with
    | .own _,ys=>(match zbw t ys with | some ys=>ck (decide (ys.length=xs.length)) (k (.tp []) [(s0,.row v t ys)]) | none=>none)
    | _,_=>none)
   | _=>none)
  | _=>none)
 | [],s0 :: rest=>(match jy s0 (.row s.ctr .int []) s && !memN s0 rest with
  | true=>(match sh,y with
   | .own t,ys=>k (.lw s0 s.ctr) (yM rest++[(s0,.row s.ctr t ys)])
   | .tp (.own t :: iD :: l),ys=>(match (iD :: l).all (fun x=>x.ans1 && !x.own1) with | true=>k (.tp (.lw s0 s.ctr :: jE (iD :: l) ys.2)) (yM rest++[(s0,.row s.ctr t ys.1)]) | false=>none)
   | _,_=>none)
  | false=>none)
 | _,_=>none
def zjf (C:List CSpec) (muts:List Nat) (f:Nat) (args:List TV) (s:TSt) (k:TV->THp->Option α):Option α :=
 match C with
 | []=>none
 | c :: r =>
  match Nat.beq c.f f && (eqN c.muts muts && Nat.beq (objK muts) 0) with
  | false=>zjf r muts f args s k
  | true =>
   match decM s.hp muts 0 c.sig args with
   | none=>zjf r muts f args s k
   | some x =>
    match zC (hsT muts 0 args) && zbk (esT muts 0 args) && ((restM muts 0 args).isEmpty || intOut c.res) with
    | false=>none
    | true=>match c.tot with
     | true=>match c.fn x with
      | some y=>bnd y fun y=>finM s muts args c.res y k
      | none=>none
     | false=>bno (c.fn x) fun y=>finM s muts args c.res y k
end
def yd:TV->List Nat
 | .lw s _=>[s]
 | _=>[]
def Sh.cell:Sh->Bool
 | .fnc _ _ | .tp _ | .unit | .st _=>false
 | _=>true
def decC1 (h:THp):(sh:Sh)->TV->Option sh.den
 | .own t,v=>match v with
  | .lw s _=>(match zav s,look s .gone h with | false,.row _ _ xs=>zbw t xs | _,_=>none)
  | .nl=>some []
  | _=>none
 | .unit,v=>match rf1 v with | []=>some () | _=>none
 | sh,v=>match sh.cell,rf1 v with | true,[]=>dec h sh v | _,_=>none
def zbu (h:THp):(l:List Sh)->List TV->Option (Sh.denL l)
 | [],[]=>some ()
 | [x],[v]=>decC1 h x v
 | x :: y :: r,v :: vs=>match decC1 h x v,zbu h (y :: r) vs with | some a,some b=>some (a,b) | _,_=>none
 | _,_=>none
def objC (h:THp) (s:Nat):Option (List TV):=match look s .gone h with | .var cs=>some (cs.map (lv1 h)) | _=>none
def decO (h:THp):(sig:List Sh)->List TV->Option (Sh.denL sig)
 | [.tp l],[.pv s 0]=>(match objC h s with | some cs=>zbu h l cs | none=>none)
 | .tp l :: y :: r,.pv s 0 :: vs=>(match objC h s with | some cs=>(match zbu h l cs,wy h (y :: r) vs with | some a,some b=>some (a,b) | _,_=>none) | none=>none)
 | _,_=>none
def objS:List TV->Nat
 | .pv s _ :: _=>s
 | _=>0
def fW (h:THp) (s:Nat):List Nat:=match objC h s with | some cs=>cs.flatMap yd | none=>[]
def opnH1 (s:TSt) (s0 n j:Nat):(sh:Sh)->sh.den->THp->Option (TV×THp)
 | .own t,xs,a=>match dF (inS s0 j) n (s.push a) with | true=>some (.lw (inS s0 j) n,(inS s0 j,.row n t xs) :: a) | false=>none
 | .unit,_,a=>some (.bot,a)
 | sh,x,a=>match sh.cell with | true=>some (enc sh x,a) | false=>none
def opnH (s:TSt) (s0 n:Nat):Nat->(l:List Sh)->Sh.denL l->THp->Option (List TV×THp)
 | _,[],_,a=>some ([],a)
 | j,[x],v,a=>match opnH1 s s0 n j x v a with | some (y,a)=>some ([y],a) | none=>none
 | j,x :: y :: r,v,a=>match opnH1 s s0 n j x v.1 a with
  | some (z,a)=>(match opnH s s0 n (j+1) (y :: r) v.2 a with | some (zs,a)=>some (z :: zs,a) | none=>none)
  | none=>none
section
variable {α:Type}
def outO (s:TSt) (s0 d:Nat):(res:Sh)->res.den->(TV->THp->Option α)->Option α
 | .tp [.tp l,R],y,k=>(match R.ans,opnH s s0 s.ctr 0 l y.1 ((s0,.var []) :: yM (fW s.hp s0)) with
  | true,some (cs,a)=>(match opn (s.push ((s0,.var cs) :: a)) s.ctr d R y.2 with | some (v,hs)=>k v (hs++(s0,.var cs) :: a) | none=>none)
  | _,_=>none)
 | _,_,_=>none
def zea (C:List CSpec) (f:Nat) (args:List TV) (d:Nat) (s:TSt) (k:TV->THp->Option α):Option α :=
 match C with
 | []=>none
 | c :: r =>
  match Nat.beq c.f f && eqN c.muts [4000] with
  | false=>zea r f args d s k
  | true=>match decO s.hp c.sig args with
   | none=>zea r f args d s k
   | some x=>match zC (fW s.hp (objS args)) && (zbk (fW s.hp (objS args)) && ((args.drop 1).flatMap rf).isEmpty) with
    | false=>none
    | true=>match c.tot with
     | true=>(match c.fn x with | some y=>bnd y fun y=>outO s (objS args) d c.res y k | none=>none)
     | false=>bno (c.fn x) fun y=>outO s (objS args) d c.res y k
def outN (s:TSt) (d:Nat):(res:Sh)->res.den->(TV->THp->Option α)->Option α
 | .tp [.tp l,.err],y,k=>br y.2.isNil
   (match freeV d s,opnH s d s.ctr 0 l y.1 [(d,.var [])] with | true,some (cs,a)=>k (.tp [.pv d 0,.e .nil]) ((d,.var cs) :: a) | _,_=>none)
   (k (.tp [.k (.pointer none),.e y.2]) [])
 | _,_,_=>none
def zeb (C:List CSpec) (f:Nat) (args:List TV) (d:Nat) (s:TSt) (k:TV->THp->Option α):Option α :=
 match C with
 | []=>none
 | c :: r =>
  match Nat.beq c.f f && eqN c.muts [5000] with
  | false=>zeb r f args d s k
  | true=>match wy s.hp c.sig args with
   | none=>zeb r f args d s k
   | some x=>match (args.flatMap rf).isEmpty with
    | false=>none
    | true=>match c.tot with
     | true=>(match c.fn x with | some y=>bnd y fun y=>outN s d c.res y k | none=>none)
     | false=>bno (c.fn x) fun y=>outN s d c.res y k
def frzA (n:Nat) (s:TSt) (args:TSt->List TV) (F:TSt->(TV->THp->Option α)->Option α) (k:TV->THp->Option α):Option α :=
 match ((args s).drop n).flatMap rf with
 | []=>F s k
 | a :: l=>match frzs s.hp (a :: l) with | none=>none | some h1=>F (s.push h1) fun v hs=>k v (hs++h1)
end
def newB (m:Nat) (ms:List Nat) (args:List TV):Bool:=Nat.beq m 3000 && ms.isEmpty && (args.flatMap rf).isEmpty
section
variable {α:Type}
def cst:Value->TV
 | .int .i64 n=>.i n
 | .int .u8 n=>.u n
 | .bool b=>.b b
 | .string s=>.s s
 | .nilIface=>.e .nil
 | .slice none 0 0=>.nl
 | x=>.k x
def zio:TV->List TV
 | .fn _ caps=>caps
 | _=>[]
def nofn:TV->Bool
 | .tp _ | .fn _ _=>false
 | _=>true
def TSt.ev (s:TSt):AOpd->TV
 | .t n=>lv s.hp (look n .bot s.fr)
 | .c x=>cst x
 | .f id=>.fn id []
def binT (kd:Sc) (op:BinOp) (x y:TV) (k:TV->Option α):Option α :=
 match kd,x,y with
 | .int,.i a,.i b =>
  match op with
  | .add=>k (.i (wi (a+b)))
  | .sub=>k (.i (wi (a - b)))
  | .mul=>k (.i (wi (a * b)))
  | .quo=>ck (decide (¬ b=0)) (k (.i (wi (a.tdiv b))))
  | .rem=>ck (decide (¬ b=0)) (k (.i (a.tmod b)))
  | .eql=>k (.b (decide (a=b)))
  | .neq=>k (.b (decide (¬ a=b)))
  | .lss=>k (.b (decide (a < b)))
  | .leq=>k (.b (decide (a<=b)))
  | .gtr=>k (.b (decide (b < a)))
  | .geq=>k (.b (decide (b<=a)))
  | _=>none
 | .int,.u a,.u b =>
  match op with
  | .eql=>k (.b (decide (a=b)))
  | .neq=>k (.b (decide (¬ a=b)))
  | .lss=>k (.b (decide (a < b)))
  | .leq=>k (.b (decide (a<=b)))
  | .gtr=>k (.b (decide (b < a)))
  | .geq=>k (.b (decide (b<=a)))
  | _=>none
 | .int,.k (.int .u64 a),.k (.int .u64 b) =>
  match op with
  | .shr=>(match decide (b=1) with | true=>k (.k (.int .u64 (a / 2))) | false=>none)
  | _=>none
 | .str,.s a,.s b =>
  match op with
  | .add=>ck (decide (a.size+b.size<=9223372036854775807)) (k (.s (a++b)))
  | .eql=>k (.b (decide (a=b)))
  | .neq=>k (.b (decide (¬ a=b)))
  | .lss=>k (.b (Op.bytesLess a.toList b.toList))
  | .leq=>k (.b (Op.bytesLess a.toList b.toList || strEq a b))
  | .gtr=>k (.b (!(Op.bytesLess a.toList b.toList || strEq a b)))
  | .geq=>k (.b (!Op.bytesLess a.toList b.toList))
  | _=>none
 | .bool,.b a,.b b =>
  match op with
  | .eql=>k (.b (decide (a=b)))
  | .neq=>k (.b (decide (¬ a=b)))
  | _=>none
 | _,_,_=>none
def eq1:Sc->TV->TV->Option Bool
 | .int,.i a,.i b=>some (decide (a=b))
 | .bool,.b a,.b b=>some (decide (a=b))
 | .str,.s a,.s b=>some (decide (a=b))
 | _,_,_=>none
def eqT (cs ds:List TV):List (Nat×Sc)->Option Bool
 | []=>some true
 | (off,s) :: r=>match cs[off]?,ds[off]? with
  | some x,some y=>(match eq1 s x y,eqT cs ds r with | some a,some b=>some (a && b) | _,_=>none)
  | _,_=>none
def bndT (s:TSt) (n:Nat) (lo hi:Option AOpd) (k:Int->Int->Option α):Option α :=
 match (match hi with | none=>some (n:Int) | some x=>dI (s.ev x)),(match lo with | none=>some (0:Int) | some x=>dI (s.ev x)) with
 | some h,some l=>ck (decide (0<=l∧l<=h∧h<=n)) (k l h)
 | _,_=>none
def elemsT (t:Ty) (h:THp) (v:TV):Option (List t.den):=dSl t (ql h v)
def maxT (a b:Int):Int:=if b > a then b else a
def fillT (zero:List TV):List (Nat×List TV)->Option (List TV)
 | []=>some zero
 | (off,cs) :: r=>match Nat.ble (off+cs.length) zero.length with | true=>fillT (ovw zero off cs) r | false=>none
def covB (n:Nat) (l:List Nat):Bool:=(List.range n).all fun i=>l.any (Nat.beq i)
def bslT (q:Bool) (ty:Ty) (z:Nat) (zero:List Value) (len:Nat) (parts:List (Nat×AOpd)) (d:Nat) (s:TSt) (k:TV->THp->Option α):Option α :=
 match dF d s.ctr s,Nat.beq z ty.z && (exq q (zero.map cst) || covB len (parts.map (·.1))),ziC ty (zero.map cst),
  zb (fun (p:Nat×AOpd)=>match wS (s.ev p.2) with | some cs=>(match exq q cs,ziC ty cs with | true,some x=>some (p.1,x) | _,_=>none) | none=>none) parts with
 | true,true,some z0,some ps=>k (.lw d s.ctr) [(d,.row s.ctr ty (ps.foldl (fun es p=>es.set p.1 p.2) (List.replicate len z0)))]
 | _,_,_,_=>none
def litT (ty:Ty) (z:Nat) (zero:List Value) (len:Nat) (parts:List (Nat×AOpd)) (s:TSt) (k:TV->THp->Option α):Option α :=
 match Nat.beq z ty.z && (parts.flatMap fun p=>rf (s.ev p.2)).isEmpty && (exq true (zero.map cst) || covB len (parts.map (·.1))),ziC ty (zero.map cst),
  zb (fun (p:Nat×AOpd)=>match wS (s.ev p.2) with | some cs=>(match exq true cs,ziC ty cs with | true,some x=>some (p.1,x) | _,_=>none) | none=>none) parts with
 | true,some z0,some ps=>k (.sl ty (ps.foldl (fun es p=>es.set p.1 p.2) (List.replicate len z0))) []
 | _,_,_=>none
def top (C:List CSpec) (q:Bool) (ty:Ty) (o:AOp) (d:Nat) (s:TSt) (k:TV->THp->Option α):Option α :=
 match o with
 | .mov x=>k (s.ev x) []
 | .box x=>match wS (s.ev x),freeV d s with
  | some cs,true=>k (.pv d 0) [(d,.var cs)]
  | _,_=>none
 | .alloc zero=>match freeV d s with | true=>k (.pv d 0) [(d,.var (zero.map cst))] | false=>none
 | .build zero parts =>
  match zb (fun (p:Nat×Nat×AOpd)=>match wS (s.ev p.2.2) with | some cs=>(match Nat.beq cs.length p.2.1 with | true=>some (p.1,cs) | false=>none) | none=>none) parts with
  | some ps=>match fillT (zero.map cst) ps with | some cs=>k (.ag cs) [] | none=>none
  | none=>none
 | .bslice _ z zero len parts =>
  match (parts.flatMap fun p=>rf (s.ev p.2)) with
  | []=>bslT q ty z zero len parts d s k
  | rs=>match q with
   | true=>none
   | false=>match frzs s.hp rs with
    | none=>none
    | some h1=>match (parts.flatMap fun p=>rf ((s.push h1).ev p.2)) with
     | []=>bslT q ty z zero len parts d (s.push h1) fun v hs=>k v (hs++h1)
     | _=>none
 | .lit z zero len parts=>litT ty z zero len parts s k
 | .load n x=>match s.ev x with
  | .ep t y off=>match zdD (tvs t y) off n with | some v=>k v [] | none=>none
  | .pv r off=>match look r .gone s.hp with
   | .var cs=>(match zdD (cs.map (lv1 s.hp)) off n with | some v=>k v [] | none=>none)
   | _=>none
  | .pe r _ i off=>match look r .gone s.hp with
   | .row _ t xs=>bno xs[i]? fun y=>(match zdD (tvs t y) off n with | some v=>k v [] | none=>none)
   | _=>none
  | _=>none
 | .store z a x=>match wS (s.ev x) with
  | some new=>match Nat.beq new.length z with
   | true=>match s.ev a with
    | .pv r off=>(match look r .gone s.hp with
     | .var cs=>(match Nat.ble (off+z) cs.length with | true=>k .bot [(r,.var (ovw cs off new))] | false=>none)
     | _=>none)
    | .pe r v i off=>(match look r .gone s.hp with
     | .row _ t xs =>
      (match new.flatMap rf1 with
      | []=>bno xs[i]? fun y=>(match Nat.ble (off+z) (tvs t y).length && exq q (ovw (tvs t y) off new),ziC t (ovw (tvs t y) off new) with | true,some y'=>k .bot [(r,.row v t (xs.set i y'))] | _,_=>none)
      | _=>none)
     | _=>none)
    | _=>none
   | false=>none
  | none=>none
 | .chk x=>match s.ev x with
  | .pv r off=>k (.pv r off) []
  | .pe r v i off=>k (.pe r v i off) []
  | .ep t y off=>k (.ep t y off) []
  | .fn f caps=>k (.fn f caps) []
  | _=>none
 | .bin kd op x y=>binT kd op (s.ev x) (s.ev y) fun v=>k v []
 | .eqa neg shape x y=>match s.ev x,s.ev y with
  | .ag cs,.ag ds=>(match eqT cs ds shape with | some r=>k (.b (match neg with | true => !r | false=>r)) [] | none=>none)
  | _,_=>none
 | .eqn sl neg x=>match sl,s.ev x with
  | true,.nl=>k (.b (!neg)) []
  | true,.sl _ xs=>ck (!xs.isEmpty) (k (.b neg) [])
  | true,.ns _ y=>ck (match y with | some xs => !xs.isEmpty | none=>true) (k (.b (match neg with | true=>y.isSome | false=>y.isNone)) [])
  | false,.e y=>k (.b (match neg with | true => !y.isNil | false=>y.isNil)) []
  | _,_=>none
 | .un op x=>match op,s.ev x with
  | .neg,.i n=>k (.i (wi (0 - n))) []
  | .not,.b b=>k (.b (!b)) []
  | _,_=>none
 | .cvi kd x=>match kd,s.ev x with
  | .i64,.i n=>k (.i (wi n)) []
  | .i64,.u n=>k (.i (wi n)) []
  | .u8,.i n=>k (.u (IntKind.u8.wrap n)) []
  | .u8,.u n=>k (.u (IntKind.u8.wrap n)) []
  | .u64,.i n=>k (.k (.int .u64 (IntKind.u64.wrap n))) []
  | .i64,.k (.int .u64 n)=>k (.i (wi n)) []
  | _,_=>none
 | .cvs x=>match s.ev x with | .s b=>k (.sl .u8 b.data.toList) [] | _=>none
 | .ifc t x=>match Nat.beq t 1,s.ev x with
  | true,.i n=>k (.e (.no n)) []
  | false,.bot=>none
  | false,_=>(match q with | true=>none | false=>k (.e (.oth t)) [])
  | _,_=>none
 | .mkfn f caps=>match (caps.map s.ev).all nofn with | true=>k (.fn f (caps.map s.ev)) [] | false=>none
 | .mksl z zero len cap=>match dF d s.ctr s,Nat.beq z ty.z && exq q (zero.map cst),ziC ty (zero.map cst),s.ev len,s.ev cap with
  | true,true,some z0,.i n,.i c=>ck (decide (0<=n∧n<=c∧c<=zan z)) (k (.lw d s.ctr) [(d,.row s.ctr ty (List.replicate n.toNat z0))])
  | _,_,_,_,_=>none
 | .slc z x lo hi=>match z,s.ev x with
  | 0,.s b=>bndT s b.size lo hi fun l h=>k (.s (b.extract l.toNat h.toNat)) []
  | _+1,.nl=>bndT s 0 lo hi fun _ _=>k .nl []
  | z+1,.sl t xs=>match Nat.beq (z+1) t.z with | true=>bndT s xs.length lo hi fun l h=>k (.sl t ((xs.drop l.toNat).take (h.toNat - l.toNat))) [] | false=>none
  | z+1,.lw r v=>match look r .gone s.hp with
   | .row _ t xs=>match Nat.beq (z+1) t.z with | true=>bndT s xs.length lo hi fun l h=>k (.ls r v l.toNat (h.toNat - l.toNat)) [] | false=>none
   | _=>none
  | z+1,.ls r v off len=>match look r .gone s.hp with
   | .row _ t _=>match Nat.beq (z+1) t.z with | true=>bndT s len lo hi fun l h=>k (.ls r v (off+l.toNat) (h.toNat - l.toNat)) [] | false=>none
   | _=>none
  | _,_=>none
 | .fa off x=>match s.ev x with
  | .pv r o=>k (.pv r (o+off)) []
  | .pe r v i o=>k (.pe r v i (o+off)) []
  | .ep t y o=>k (.ep t y (o+off)) []
  | _=>none
 | .fld off n x=>match s.ev x with | .ag cs=>(match zdD cs off n with | some v=>k v [] | none=>none) | _=>none
 | .ia z x i=>match s.ev x,(match s.ev i with | .i n=>some n | .u n=>some n | _=>none) with
  | .sl t xs,some n=>(match Nat.beq z t.z with | true=>bno (qb xs n) fun y=>k (.ep t y 0) [] | false=>none)
  | .ns t y,some n=>(match Nat.beq z t.z with | true=>bno (qb (y.getD []) n) fun y=>k (.ep t y 0) [] | false=>none)
  | .lw r v,some n=>(match look r .gone s.hp with
   | .row _ t xs=>(match Nat.beq z t.z with | true=>ck (decide (0<=n∧n < xs.length)) (k (.pe r v n.toNat 0) []) | false=>none)
   | _=>none)
  | .ls r v off len,some n=>(match look r .gone s.hp with
   | .row _ t _=>(match Nat.beq z t.z with | true=>ck (decide (0<=n∧n < len)) (k (.pe r v (off+n.toNat) 0) []) | false=>none)
   | _=>none)
  | _,_=>none
 | .ix x i=>match s.ev x,(match s.ev i with | .i n=>some n | .u n=>some n | _=>none) with
  | .s b,some n=>bno (qb b.data.toList n) fun y=>k (.u y.toNat) []
  | _,_=>none
 | .ext x i=>match s.ev x with | .tp vs=>(match vs[i]? with | some v=>k v [] | none=>none) | _=>none
 | .len str x=>match str,s.ev x with
  | true,.s b=>k (.i b.size) []
  | false,.nl=>k (.i 0) []
  | false,.sl _ xs=>k (.i xs.length) []
  | false,.ns _ y=>k (.i (y.getD []).length) []
  | false,.lw r _=>(match look r .gone s.hp with | .row _ _ xs=>k (.i xs.length) [] | _=>none)
  | false,.ls r _ _ n=>(match look r .gone s.hp with | .row _ _ _=>k (.i n) [] | _=>none)
  | _,_=>none
 | .app z x y=>match Nat.beq z ty.z,elemsT ty s.hp (s.ev y) with
  | true,some ys=>(match s.ev x with
   | .nl=>(match dF d s.ctr s with
    | true=>ck (decide (ys.length<=zan z)) (k (.lw d s.ctr) [(d,.row s.ctr ty ys)])
    | false=>none)
   | .lw r _=>(match look r .gone s.hp, !zav r && jy r (.row s.ctr .int []) s with
    | .row _ t xs,true=>(match zbw ty (t:=t) xs with
     | some xs=>ck (decide (xs.length+ys.length<=zan z)) (k (.lw r s.ctr) [(r,.row s.ctr ty (xs++ys))])
     | none=>none)
    | _,_=>none)
   | _=>none)
  | _,_=>none
 | .pick c a b=>match s.ev c with
  | .b x=>br x (k (s.ev a) []) (k (s.ev b) [])
  | _=>none
 | .max2 x y=>match s.ev x,s.ev y with | .i a,.i b=>k (.i (maxT a b)) [] | _,_=>none
 | .call _ muts f args=>match muts with | []=>fg C q true f (fun s=>args.map s.ev) d s k | m :: ms=>(match newB m ms (args.map s.ev) with | true=>fg C false false f (fun s=>args.map s.ev) d s k | false=>zjf C (m :: ms) f (args.map s.ev) s k)
 | .callo kk f args=>match q,kk with
  | false,0=>frzA 1 s (fun s=>args.map s.ev) (fun s k=>zea C f (args.map s.ev) d s k) k
  | false,_=>frzA 0 s (fun s=>args.map s.ev) (fun s k=>zeb C f (args.map s.ev) d s k) k
  | true,_=>none
 | .calld _ x args=>match s.ev x with | .fn f _=>fg C q false f (fun s=>args.map s.ev++zio (s.ev x)) d s k | _=>none
def TSt.done (s:TSt) (d:Option Nat) (v:TV) (hs:THp):TSt:=(s.push hs).putO d v
def ziD (C:List CSpec) (q:Bool):List AOper->List Ty->TSt->(TSt->Option α)->Option α
 | [],_,s,k=>k s
 | ⟨d,op,none,_⟩ :: r,tys,s,k=>top C q (tys.headD .int) op (d.getD 0) s fun v hs=>ziD C q r tys.tail (s.done d v hs) k
 | ⟨d,op,some (t,want),_⟩ :: r,tys,s,k =>
  match s.ev (.t t) with
  | .ud=>ziD C q r tys.tail (s.putO d .ud) k
  | .b x =>
   br x
    (match want with
    | true=>top C q (tys.headD .int) op (d.getD 0) (s.put t (.b true)) fun v hs=>ziD C q r tys.tail ((s.put t (.b true)).done d v hs) k
    | false=>ziD C q r tys.tail ((s.put t (.b true)).putO d .ud) k)
    (match want with
    | false=>top C q (tys.headD .int) op (d.getD 0) (s.put t (.b false)) fun v hs=>ziD C q r tys.tail ((s.put t (.b false)).done d v hs) k
    | true=>ziD C q r tys.tail ((s.put t (.b false)).putO d .ud) k)
  | _=>none
end
inductive CK where
 | sh (x:Sh)
 | row (s:Nat) (t:Ty)
 deriving Inhabited
inductive MK where
 | slot (k:Nat) (sh:Sh)
 | row (k s:Nat) (t:Ty)
 | rowH (s:Nat) (t:Ty)
 | var (s:Nat) (cs:List CK)
 deriving Inhabited
@[reducible] def CK.den:CK->Type
 | .sh x=>x.den
 | .row _ t=>List t.den
@[reducible] def CK.denL:List CK->Type
 | []=>Unit
 | [x]=>x.den
 | x :: y :: r=>x.den×CK.denL (y :: r)
@[reducible] def MK.den:MK->Type
 | .slot _ sh=>sh.den
 | .row _ _ t=>List t.den
 | .rowH _ t=>List t.den
 | .var _ cs=>CK.denL cs
@[reducible] def MK.denL:List MK->Type
 | []=>Unit
 | [x]=>x.den
 | x :: y :: r=>x.den×MK.denL (y :: r)
def pRow (h:THp) (s:Nat) (t:Ty) (v:TV):Option (List t.den) :=
 match v with
 | .nl=>match gN (look s .gone h), !zav s with | true,true=>some [] | _,_=>none
 | .lw s' _=>match Nat.beq s s',look s .gone h with | true,.row _ _ xs=>zbw t xs | _,_=>none
 | _=>none
def pCK (h:THp):(c:CK)->TV->Option c.den
 | .sh x,v=>dec [] x v
 | .row s t,v=>pRow h s t v
def pCKs (h:THp):(l:List CK)->List TV->Option (CK.denL l)
 | [],[]=>some ()
 | [x],[v]=>pCK h x v
 | x :: y :: r,v :: vs=>match pCK h x v,pCKs h (y :: r) vs with | some a,some b=>some (a,b) | _,_=>none
 | _,_=>none
def verOf (s:Nat) (h:THp):Option Nat:=match look s .gone h with | .row v _ _=>some v | _=>none
def eqVer:Option Nat->Option Nat->Bool
 | some a,some b=>Nat.beq a b
 | _,_=>false
def pMK (s0 s:TSt):(m:MK)->Option m.den
 | .slot k sh=>dec [] sh (s.ev (.t k))
 | .row k r t=>pRow s.hp r t (s.ev (.t k))
 | .rowH r t=>match look r .gone s.hp,eqVer (verOf r s0.hp) (verOf r s.hp) with | .row _ _ xs,true=>zbw t xs | _,_=>none
 | .var r cs=>match look r .gone s.hp with | .var vs=>pCKs s.hp cs (vs.map (lv1 s.hp)) | _=>none
def pMKs (s0 s:TSt):(l:List MK)->Option (MK.denL l)
 | []=>some ()
 | [x]=>pMK s0 s x
 | x :: y :: r=>match pMK s0 s x,pMKs s0 s (y :: r) with | some a,some b=>some (a,b) | _,_=>none
def iCK (n:Nat):(c:CK)->c.den->TV×THp
 | .sh x,v=>(enc x v,[])
 | .row s t,v=>(.lw s n,[(s,.row n t v)])
def zgB (n:Nat):(l:List CK)->CK.denL l->List TV×THp
 | [],_=>([],[])
 | [x],v=>([(iCK n x v).1],(iCK n x v).2)
 | x :: y :: r,v=>((iCK n x v.1).1 :: (zgB n (y :: r) v.2).1,(iCK n x v.1).2++(zgB n (y :: r) v.2).2)
def iMK (n:Nat) (h0:THp):(m:MK)->m.den->List (Nat×TV)×THp
 | .slot k sh,v=>([(k,enc sh v)],[])
 | .row k s t,v=>([(k,.lw s n)],[(s,.row n t v)])
 | .rowH s t,v=>([],[(s,.row ((verOf s h0).getD 0) t v)])
 | .var s cs,v=>([],(s,.var (zgB n cs v).1) :: (zgB n cs v).2)
def zgA (n:Nat) (h0:THp):(l:List MK)->MK.denL l->List (Nat×TV)×THp
 | [],_=>([],[])
 | [x],v=>iMK n h0 x v
 | x :: y :: r,v=>((iMK n h0 x v.1).1++(zgA n h0 (y :: r) v.2).1,(iMK n h0 x v.1).2++(zgA n h0 (y :: r) v.2).2)
structure Mods where
 ks:List MK
 w:List Nat
 wh:List Nat
 fz:List Nat
 deriving Inhabited
def inj (m:Mods) (s0:TSt) (x:MK.denL m.ks):TSt :=
 { fr:=(zgA s0.ctr s0.hp m.ks x).1++(m.w.map fun k=>(k,TV.bot))++s0.fr,hp:=(zgA s0.ctr s0.hp m.ks x).2++(m.wh.map fun k=>(k,TB.gone))++s0.hp,ctr:=s0.ctr+1 }
def ksF:List MK->List Nat
 | []=>[]
 | .slot k _ :: r=>k :: ksF r
 | .row k _ _ :: r=>k :: ksF r
 | _ :: r=>ksF r
def ckH:List CK->List Nat
 | []=>[]
 | .row s _ :: r=>s :: ckH r
 | _ :: r=>ckH r
def ksH:List MK->List Nat
 | []=>[]
 | .slot _ _ :: r=>ksH r
 | .row _ s _ :: r=>s :: ksH r
 | .rowH s _ :: r=>s :: ksH r
 | .var s cs :: r=>s :: (ckH cs++ksH r)
def subN (l m:List Nat):Bool:=l.all fun k=>memN k m
def dis1:List Nat->Bool
 | []=>true
 | a :: r => !memN a r && dis1 r
def okK (s0:TSt) (n:Nat):MK->Bool
 | .slot _ _=>true
 | .row _ s _=>jy s (.row n .int []) s0
 | .rowH _ _=>true
 | .var _ cs=>(ckH cs).all fun s=>jy s (.row n .int []) s0
def okH (m:Mods) (s0:TSt):Bool:=m.ks.all (okK s0 s0.ctr)
def told (m:Mods) (s0 s:TSt):Bool :=
 okH m s0 && (
 subN ((s.fr.take (s.fr.length - s0.fr.length)).map (·.1)) (ksF m.ks++m.w) && (subN ((s.hp.take (s.hp.length - s0.hp.length)).map (·.1)) (ksH m.ks++m.wh) && dis1 (ksH m.ks++m.wh)) && dis1 (ksF m.ks++m.w)) && zbk m.wh
def TSt.frzS (s:TSt) (l:List Nat):Option TSt:=match frzs s.hp l with | some h=>some (s.push h) | none=>none
def zfE (m:Mods) (s0 s:TSt):Option (MK.denL m.ks) :=
 match s.frzS m.fz with
 | some s=>match told m s0 s with | true=>pMKs s0 s m.ks | false=>none
 | none=>none
abbrev LI:=List Int
abbrev LD:=List Dim
abbrev LY:=List Entry
abbrev LN:=List Node
abbrev LM:=List Member
abbrev LC:=List Cell
abbrev oq (d:Nat) (o:AOp):AOper:=⟨some d,o,none,[]⟩
abbrev om (d:Nat) (x:AOpd):AOper:=⟨some d,.mov x,none,[]⟩
abbrev od (d:Nat) (o:AOp) (l:List Nat):AOper:=⟨some d,o,none,l⟩
abbrev og (d:Nat) (o:AOp) (g:Nat) (b:Bool) (l:List Nat):AOper:=⟨some d,o,some (g,b),l⟩
abbrev on (o:AOp):AOper:=⟨none,o,none,[]⟩
abbrev ci (n:Int):AOpd:=.c (.int .i64 n)
abbrev cb (b:Bool):AOpd:=.c (.bool b)
abbrev cs (s:ByteArray):AOpd:=.c (.string s)
abbrev cz:AOpd:=.c .nilIface
abbrev cn:AOpd:=.c (.slice none 0 0)
instance (n : Nat) : OfNat AOpd n := ⟨.t n⟩
inductive TCode where
 | skip
 | region (ops:List AOper) (tys:List Ty) (draw:Bool)
 | regionJ (m:Mods) (ops:List AOper) (tys:List Ty) (draw:Bool)
 | seq (a b:TCode)
 | cond (c:AOpd) (a b:TCode)
 | condJ (m:Mods) (c:AOpd) (a b:TCode)
 | block (id:Nat) (b:TCode)
 | blockJ (m:Mods) (id:Nat) (b:TCode)
 | loop (m:Mods) (id:Nat) (b:TCode)
 | exit (id:Nat)
 | ret
 deriving Inhabited
abbrev rg (l:List AOper):TCode:=.region l [] false
def TCode.er:TCode->ACode
 | .skip=>.skip
 | .region ops _ dr=>.region ops dr
 | .regionJ _ ops _ dr=>.region ops dr
 | .seq a b=>.seq a.er b.er
 | .cond c a b=>.cond c a.er b.er
 | .condJ _ c a b=>.cond c a.er b.er
 | .block id b=>.block id b.er
 | .blockJ _ id b=>.block id b.er
 | .loop _ id b=>.block id (.loop b.er)
 | .exit id=>.exit id
 | .ret=>.ret
def run (C:List CSpec):TCode->{α:Type}->TSt->(AExit->TSt->Option α)->Option α
 | .skip,_,s,k=>k .norm s
 | .region ops tys dr,_,s,k=>ziD C dr ops tys s fun s=>k .norm s
 | .regionJ m ops tys dr,α,s,k=>jn (ziD C dr ops tys s fun s'=>(zD (zfE m s s'):Option (Sum (MK.denL m.ks) α))) fun x=>k .norm (inj m s x)
 | .seq a b,_,s,k=>run C a s fun e s=>match e with | .norm=>run C b s k | e=>k e s
 | .cond c a b,_,s,k=>match s.ev c with | .b x=>br x (run C a s k) (run C b s k) | _=>none
 | .condJ m c a b,α,s,k =>
  match s.ev c with
  | .b x=>jn (br x
    (run C a s fun e s'=>match e with | .norm=>(zD (zfE m s s'):Option (Sum (MK.denL m.ks) α)) | e=>zfZ (k e s'))
    (run C b s fun e s'=>match e with | .norm=>(zD (zfE m s s'):Option (Sum (MK.denL m.ks) α)) | e=>zfZ (k e s')))
    fun x=>k .norm (inj m s x)
  | _=>none
 | .block id b,_,s,k=>run C b s fun e s=>match e with | .exit i=>(match Nat.beq i id with | true=>k .norm s | false=>k (.exit i) s) | e=>k e s
 | .blockJ m id b,α,s,k=>jn (run C b s fun e s'=>match e with
   | .norm=>(zD (zfE m s s'):Option (Sum (MK.denL m.ks) α))
   | .exit i=>(match Nat.beq i id with | true=>zD (zfE m s s') | false=>zfZ (k (.exit i) s'))
   | .ret=>zfZ (k .ret s')) fun x=>k .norm (inj m s x)
 | .loop m id b,α,s,k =>
  match zfE m s s with
  | none=>none
  | some x0=>lp (fun x=>run C b (inj m s x) fun e s'=>match e with
    | .norm=>(nxO (zfE m s s'):Option (LR (MK.denL m.ks) α))
    | .exit i=>(match Nat.beq i id with | true=>dnO (zfE m s s') | false=>wj (k (.exit i) s'))
    | .ret=>wj (k .ret s')) x0 fun x=>k .norm (inj m s x)
 | .exit id,_,s,k=>k (.exit id) s
 | .ret,_,s,k=>k .ret s
def frT:Nat->List TV->List (Nat×TV)
 | _,[]=>[]
 | i,x :: r=>(i,x) :: frT (i+1) r
def zbU (sig:List Sh) (x:Sh.denL sig):TSt:={ fr:=frT 0 (jE sig x),hp:=[],ctr:=1 }
def zjo (s:TSt):ARes->Option TV
 | .tmp t=>some (s.ev (.t t))
 | .cell t n=>match s.ev (.t t) with
  | .ep t' y off=>zdD (tvs t' y) off n
  | .pv r off=>(match look r .gone s.hp with | .var cs=>zdD (cs.map (lv1 s.hp)) off n | _=>none)
  | .pe r _ i off=>(match look r .gone s.hp with | .row _ t' xs=>(match xs[i]? with | some y=>zdD (tvs t' y) off n | none=>none) | _=>none)
  | _=>none
def exp1 (own:Bool) (h:THp):(sh:Sh)->TV->Option sh.den
 | .own t,v=>match own with
  | true=>(match v with
   | .lw s _=>(match !zav s,look s .gone h with | true,.row _ _ xs=>zbw t xs | _,_=>none)
   | .nl=>some []
   | _=>none)
  | false=>none
 | sh,v=>match own with
  | true=>dec [] sh v
  | false=>dec h sh v
def expL (own:Bool) (h:THp):(l:List Sh)->List TV->Option (Sh.denL l)
 | [],[]=>some ()
 | [x],[v]=>exp1 own h x v
 | x :: y :: r,v :: vs=>match exp1 own h x v,expL own h (y :: r) vs with | some a,some b=>some (a,b) | _,_=>none
 | _,_=>none
def zgC (own:Bool) (h:THp):(sh:Sh)->List TV->Option sh.den
 | .tp l,vs=>match vs with | _ :: _ :: _=>expL own h l vs | _=>none
 | .unit,vs=>match vs with | []=>some () | _=>none
 | sh,vs=>match vs with | [v]=>exp1 own h sh v | _=>none
def Sh.arg:Sh->Bool
 | .own _ | .tp _ | .unit=>false
 | .fnc _ caps=>caps.all fun s=>s.ans1 && !s.own1
 | _=>true
structure TFunc where
 np:Nat
 nt:Nat
 res:List ARes
 own:Bool
 body:TCode
 muts:List Nat:=[]
 deriving Inhabited
def TFunc.er (f:TFunc):AFunc:={ np:=f.np,nt:=f.nt,res:=f.res,muts:=f.muts,own:=f.own,body:=f.body.er }
def TFunc.run (C:List CSpec) (f:TFunc) (sig:List Sh) (rs:Sh) (x:Sh.denL sig):Option rs.den :=
 Ab.run C f.body (zbU sig x) fun e s=>match e with
  | .exit _=>none
  | _=>match zb (zjo s) f.res with | some vs=>(match !f.own || zC (vs.flatMap rf) with | true=>zgC f.own s.hp rs vs | false=>none) | none=>none
def encM1 (muts:List Nat) (i:Nat):(sh:Sh)->sh.den->TV
 | .own _,_=>.lw (z6 muts i) 0
 | sh,x=>enc sh x
def frTM (muts:List Nat):Nat->(l:List Sh)->Sh.denL l->List (Nat×TV)
 | _,[],_=>[]
 | i,[x],v=>[(i,encM1 muts i x v)]
 | i,x :: y :: r,v=>(i,encM1 muts i x v.1) :: frTM muts (i+1) (y :: r) v.2
def hpM1 (muts:List Nat) (i:Nat):(sh:Sh)->sh.den->THp
 | .own t,xs=>[(z6 muts i,.row 0 t xs)]
 | _,_=>[]
def hpTM (muts:List Nat):Nat->(l:List Sh)->Sh.denL l->THp
 | _,[],_=>[]
 | i,[x],v=>hpM1 muts i x v
 | i,x :: y :: r,v=>hpM1 muts i x v.1++hpTM muts (i+1) (y :: r) v.2
def zbq (muts:List Nat) (sig:List Sh) (x:Sh.denL sig):TSt:={ fr:=frTM muts 0 sig x,hp:=hpTM muts 0 sig x,ctr:=1 }
def keptT (s:TSt) (i:Nat) (vs:List TV):(rs:Sh)->Option rs.den
 | .own t=>match vs,look (1000+i) .gone s.hp with | [],.row _ _ ys=>zbw t ys | _,_=>none
 | _=>none
def Sh.argM (hd:Bool):Sh->Bool
 | .own _=>hd
 | .tp _ | .unit=>false
 | .fnc _ caps => !hd && caps.all fun s=>s.ans1 && !s.own1
 | _ => !hd
def zgu (muts:List Nat):Nat->List Sh->Bool
 | _,[]=>true
 | i,x :: r=>x.argM (zj muts i) && zgu muts (i+1) r
def TFunc.runM (C:List CSpec) (f:TFunc) (sig:List Sh) (rs:Sh) (x:Sh.denL sig):Option rs.den :=
 Ab.run C f.body (zbq f.muts sig x) fun e s=>match e with
  | .exit _=>none
  | _=>match zb (zjo s) f.res with
   | some vs=>(match zC (vs.flatMap rf),jc f.muts with
    | true,[]=>zgC true s.hp rs vs
    | true,[i]=>keptT s i vs rs
    | _,_=>none)
   | none=>none
def cellO (j:Nat):(sh:Sh)->sh.den->TV
 | .own _,_=>.lw (inS 1000 j) 0
 | .unit,_=>.bot
 | sh,x=>enc sh x
def j9:Nat->(l:List Sh)->Sh.denL l->List TV
 | _,[],_=>[]
 | j,[x],v=>[cellO j x v]
 | j,x :: y :: r,v=>cellO j x v.1 :: j9 (j+1) (y :: r) v.2
def hpO1 (j:Nat):(sh:Sh)->sh.den->THp
 | .own t,xs=>[(inS 1000 j,.row 0 t xs)]
 | _,_=>[]
def hpO:Nat->(l:List Sh)->Sh.denL l->THp
 | _,[],_=>[]
 | j,[x],v=>hpO1 j x v
 | j,x :: y :: r,v=>hpO1 j x v.1++hpO (j+1) (y :: r) v.2
def enterTO:(sig:List Sh)->Sh.denL sig->TSt
 | [.tp l],x=>{ fr:=[(0,.pv 1000 0)],hp:=(1000,.var (j9 0 l x)) :: hpO 0 l x,ctr:=1 }
 | .tp l :: y :: r,x=>{ fr:=(0,.pv 1000 0) :: frT 1 (jE (y :: r) x.2),hp:=(1000,.var (j9 0 l x.1)) :: hpO 0 l x.1,ctr:=1 }
 | _,_=>default
def endO (s:TSt) (vs:List TV):(rs:Sh)->Option rs.den
 | .tp [.tp l,R]=>match objC s.hp 1000 with
  | some cs=>(match zC (vs.flatMap rf++cs.flatMap yd),zbu s.hp l cs,zgC true s.hp R vs with | true,some a,some b=>some (a,b) | _,_,_=>none)
  | none=>none
 | _=>none
def TFunc.runO (C:List CSpec) (f:TFunc) (sig:List Sh) (rs:Sh) (x:Sh.denL sig):Option rs.den :=
 Ab.run C f.body (enterTO sig x) fun e s=>match e with
  | .exit _=>none
  | _=>match zb (zjo s) f.res with | some vs=>endO s vs rs | none=>none
def Sh.dfl:(sh:Sh)->Option sh.den
 | .int | .u8=>some (0:Int)
 | .bool=>some false
 | .str=>some ByteArray.empty
 | .err=>some Err.nil
 | .unit=>some ()
 | .sl _ | .own _=>some []
 | .ns _=>some none
 | _=>none
def dflL:(l:List Sh)->Option (Sh.denL l)
 | []=>some ()
 | [x]=>x.dfl
 | x :: y :: r=>match x.dfl,dflL (y :: r) with | some a,some b=>some (a,b) | _,_=>none
def nilT:TV->Bool
 | .e .nil=>true
 | .k .nilIface=>true
 | _=>false
def endN (s:TSt) (vs:List TV):(rs:Sh)->Option rs.den
 | .tp [.tp l,.err]=>match vs with
  | [.pv r 0,v]=>(match nilT v,objC s.hp r with
   | true,some cs=>(match zC (cs.flatMap yd),zbu s.hp l cs with | true,some a=>some (a,Err.nil) | _,_=>none)
   | _,_=>none)
  | [.k (.pointer none),.e e]=>(match dflL l with | some a=>ck (!e.isNil) (some (a,e)) | none=>none)
  | _=>none
 | _=>none
def TFunc.runN (C:List CSpec) (f:TFunc) (sig:List Sh) (rs:Sh) (x:Sh.denL sig):Option rs.den :=
 Ab.run C f.body (zbU sig x) fun e s=>match e with
  | .exit _=>none
  | _=>match zb (zjo s) f.res with | some vs=>endN s vs rs | none=>none
end
section
open Go Go.RowKit
def Nz (x y:AV):Prop:=x=y∨(x=aN∧∃ z,y=.sl z [])
inductive Wk (N:Nat->Prop):AV->AV->Prop
 | bot (x:AV):Wk N x .bot
 | rfl (x:AV):Wk N x x
 | nil (z:Nat):Wk N aN (.sl z [])
 | row0 (r z:Nat):N r->Wk N aN (.lsl r z 0 0)
 | agg {cs ds:List AV}:cs.length=ds.length->(∀ (i:Nat) (x y:AV),cs[i]? = some x->ds[i]? = some y->Wk N x y)->Wk N (.agg cs) (.agg ds)
 | tup {cs ds:List AV}:cs.length=ds.length->(∀ (i:Nat) (x y:AV),cs[i]? = some x->ds[i]? = some y->Wk N x y)->Wk N (.tup cs) (.tup ds)
 | fn {f:Nat} {cs ds:List AV}:cs.length=ds.length->(∀ (i:Nat) (x y:AV),cs[i]? = some x->ds[i]? = some y->Wk N x y)->Wk N (.fn f cs) (.fn f ds)
 | ifc (t:Nat) (x:AV):Wk N (.ifc t x) (.ifc t .bot)
 | ep {cs ds:List AV} (off:Nat):cs.length=ds.length->(∀ (i:Nat) (x y:AV),cs[i]? = some x->ds[i]? = some y->Nz x y)->Wk N (.ep cs off) (.ep ds off)
def Nz.wk {N:Nat->Prop} {x y:AV} (h:Nz x y):Wk N x y:=by
 rcases h with rfl | ⟨rfl,z,rfl⟩
 ·exact .rfl _
 ·exact .nil z
def zu {α β:Type} {l:List α} {m:List β} (h:l.length=m.length) {i:Nat} {y:β} (hy:m[i]? = some y):∃ x,l[i]? = some x:=by have:=(Aa.1 hy).1;exact ⟨l[i]'(by omega),Ac _⟩
section
variable {S:Seat} {A0:Nat->Prop} {O:Hnd} {w0:World} {A:Nat->Prop} {σ σ':Nat->Option Nat} {w:World} {st st1:ASt} {tm:Array Value} {N:Nat->Prop}
def VR0.nz {x y:AV} (hn:Nz x y) {v:Value} (h:VR0 S A w x v):VR0 S A w y v:=by
 rcases hn with rfl | ⟨rfl,z,rfl⟩
 ·exact h
 ·have:v=.slice none 0 0:=VR.v_inv (σ:=fun _=>none) (.of0 h);subst this;exact .slnil z
def VR0.ep_nz {cs ds:List AV} {off:Nat} (hl:cs.length=ds.length) (hp:∀ (i:Nat) (x y:AV),cs[i]? = some x->ds[i]? = some y->Nz x y) {v:Value} (h:VR0 S A w (.ep cs off) v):VR0 S A w (.ep ds off) v:=by
 cases h with
 | ep h1 h2 h3 =>refine .ep h1 (fun j hj=>h2 j (by omega)) fun j y hy => ?_;obtain ⟨x,hx⟩:=zu hl hy;exact (h3 j x hx).nz (hp j x y hx hy)
def VR.wk {x y:AV} (hw:Wk N x y):∀ {v:Value},VR S A σ w x v->(∀ s∈y.refs,σ' s=σ s)->(∀ r,N r->σ' r=none)->VR S A σ' w y v:=by
 have sub:∀ {cs:List AV} {x0:AV} {j:Nat},cs[j]? = some x0->∀ s∈x0.refs,s∈AV.refsL cs:=fun hx s hs=>zd.2 ⟨_,Ae hx,hs⟩
 induction hw with
 | bot x=>intro v _ _ _;exact .of0 (.bot v)
 | rfl x =>intro v h hs _;exact h.mono (fun _ h=>h) (fun _ _=>rfl) fun s hm=>⟨hs s hm,fun b cs el _ hb=>⟨cs,hb,rfl⟩⟩
 | nil z =>intro v h _ _;have:v=.slice none 0 0:=VR.v_inv h;subst this;exact .of0 (.slnil z)
 | row0 r z hr =>intro v h _ hN;have:v=.slice none 0 0:=VR.v_inv h;subst this;exact .lslnil (hN r hr)
 | agg hl hp ih =>intro v h hs hN;obtain ⟨vs,rfl,h1,h2⟩:=h.agg_inv;refine .agg (by omega) fun i y hy => ?_;obtain ⟨x,hx⟩:=zu hl hy;exact ih i x y hx hy (h2 i x hx) (fun s hm=>hs s (by rw[AV.refs];exact sub hy s hm)) hN
 | tup hl hp ih =>intro v h hs hN;obtain ⟨vs,rfl,h1,h2⟩:=h.tup_inv;refine .tup (by omega) fun i y hy => ?_;obtain ⟨x,hx⟩:=zu hl hy;exact ih i x y hx hy (h2 i x hx) (fun s hm=>hs s (by rw[AV.refs];exact sub hy s hm)) hN
 | fn hl hp ih =>intro v h hs hN;obtain ⟨g,vs,rfl,h0,h1,h2⟩:=h.fn_inv;refine .fn h0 (by omega) fun i y hy => ?_;obtain ⟨x,hx⟩:=zu hl hy;exact ih i x y hx hy (h2 i x hx) (fun s hm=>hs s (by rw[AV.refs];exact sub hy s hm)) hN
 | ifc t x =>
  intro v h _ _;cases h with
  | of0 h=>cases h with | ifc h0 h1=>exact .of0 (.ifc h0 (.bot _))
  | ifc h0 h1=>exact .of0 (.ifc h0 (.bot _))
 | ep off hl hp =>
  intro v h _ _;cases h with
  | of0 h=>exact .of0 (h.ep_nz hl hp)
def VR0.wk {x y:AV} (hw:Wk (fun _=>False) x y):∀ {v:Value},VR0 S A w x v->VR0 S A w y v:=by
 induction hw with
 | bot x=>intro v _;exact .bot v
 | rfl x=>intro v h;exact h
 | nil z =>intro v h;have:v=.slice none 0 0:=VR.v_inv (σ:=fun _=>none) (.of0 h);subst this;exact .slnil z
 | row0 r z hr=>exact hr.elim
 | agg hl hp ih =>
  intro v h;cases h with
  | agg h1 h2 =>refine .agg (by omega) fun i y hy => ?_;obtain ⟨x,hx⟩:=zu hl hy;exact ih i x y hx hy (h2 i x hx)
 | tup hl hp ih =>
  intro v h;cases h with
  | tup h1 h2 =>refine .tup (by omega) fun i y hy => ?_;obtain ⟨x,hx⟩:=zu hl hy;exact ih i x y hx hy (h2 i x hx)
 | fn hl hp ih =>
  intro v h;cases h with
  | fn h0 h1 h2 =>refine .fn h0 (by omega) fun i y hy => ?_;obtain ⟨x,hx⟩:=zu hl hy;exact ih i x y hx hy (h2 i x hx)
 | ifc t x =>intro v h;cases h with | ifc h0 h1=>exact .ifc h0 (.bot _)
 | ep off hl hp=>intro v h;exact h.ep_nz hl hp
def EWk (es dz:List (List AV)):Prop :=
 es.length=dz.length∧∀ (i:Nat) (e e1:List AV),es[i]? = some e->dz[i]? = some e1->e.length=e1.length∧∀ (c:Nat) (x y:AV),e[c]? = some x->e1[c]? = some y->Wk (fun _=>False) x y
def EWk.rfl (es:List (List AV)):EWk es es :=
 ⟨by simp,fun i e e1 h h1=>by rw[h] at h1;cases h1;exact ⟨by simp,fun c x y h h1=>by rw[h] at h1;cases h1;exact .rfl _⟩⟩
inductive BWk (N:Nat->Prop):Blk->Blk->Prop
 | var {cs ds:List AV}:cs.length=ds.length->(∀ (i:Nat) (x y:AV),cs[i]? = some x->ds[i]? = some y->Wk N x y)->BWk N (.var cs) (.var ds)
 | arr {z:Nat} {es dz:List (List AV)}:EWk es dz->BWk N (.arr z es) (.arr z dz)
def BWk.rfl {N:Nat->Prop} (b:Blk):BWk N b b:=by
 cases b with
 | var cs=>exact .var (by simp) fun i x y h h1=>by rw[h] at h1;cases h1;exact .rfl _
 | arr z es=>exact .arr (.rfl es)
structure SWk (N:Nat->Prop) (st st1:ASt):Prop where
 fr:∀ k,Wk N (st.fr k) (st1.fr k)
 kep:∀ s,zav s=true->st.hp s≠none->st1.hp s≠none
 hp:∀ s,st1.hp s=none∨(∃ b b1,st.hp s=some b∧st1.hp s=some b1∧BWk N b b1)∨(st.hp s=none∧∃ z,st1.hp s=some (.arr z []))
 new:∀ r,N r->st.hp r=none
 dang:∀ k s,s∈(st1.fr k).refs->st1.hp s≠none
 dangV:∀ s cs,st1.hp s=some (.var cs)->∀ s'∈AV.refsL cs,st1.hp s'≠none
def SRel.weaken (h:SRel S A0 O w0 A σ w st tm) (hl:SWk N st st1):∃ A' σ',SRel S A0 O w0 A' σ' w st1 tm:=by
 have ct:∀ s,st.hp s=none->σ s=none:=fun s hs=>by
  cases hq:σ s with
  | none=>exact Eq.refl _
  | some b=>exact absurd hs (h.dom s b hq).1
 let σ1:Nat->Option Nat:=fun k=>match st1.hp k with | none=>none | some _=>σ k
 have hσ:∀ s,st1.hp s≠none->σ1 s=σ s:=fun s hs=>by
  cases hq:st1.hp s with
  | none=>exact absurd hq hs
  | some b=>simp[σ1,hq]
 have hN:∀ r,N r->σ1 r=none:=fun r hr=>by
  cases hq:st1.hp r with
  | none=>simp[σ1,hq]
  | some b=>simp[σ1,hq,ct r (hl.new r hr)]
 refine ⟨A,σ1,fun k=>(h.fr k).wk (hl.fr k) (fun s hs=>hσ s (hl.dang k s hs)) hN,fun s blk hb => ?_,hl.dang,hl.dangV,fun s b hs => ?_,fun s s' b h1 h2 => ?_,h.Alt,h.Asub,h.keep,h.kp.of fun s hf hn=>⟨⟨hσ s (hl.kep s hf hn),fun b cs el _ hb=>⟨cs,hb,Eq.refl _⟩⟩,fun z es he => ?_,fun cs he => ?_⟩,h.Olt⟩
 ·have aK:σ1 s=σ s:=hσ s (by rw[hb];simp);rcases hl.hp s with hk | ⟨b,b1,k1,k2,k3⟩ | ⟨k1,z,k2⟩
  ·rw[hk] at hb;cases hb
  ·rw[hb] at k2;cases k2;have hr:=h.hp s b k1;cases k3 with
   | @var cs ds fO kQ =>obtain ⟨b,vs,el,m1,m2,m3,m4⟩:=hr;refine ⟨b,vs,el,aK.trans m1,m2,by omega,fun i y hy => ?_⟩;obtain ⟨x,hx⟩:=zu fO hy;exact (m4 i x hx).wk (kQ i x y hx hy) (fun s' ae=>hσ s' (hl.dangV s ds hb s' (zd.2 ⟨y,Ae hy,ae⟩))) hN
   | @arr z es dz he =>
    obtain ⟨e1,e2⟩:=he;obtain ⟨m0,m1⟩:=hr;refine ⟨fun e he => ?_, ?_⟩
    ·obtain ⟨i,hi⟩:=Ay.1 he;obtain ⟨e0,fw⟩:=zu e1 hi;rw[← (e2 i e0 e fw hi).1];exact m0 e0 (Ae fw)
    ·rcases m1 with ⟨m1,rfl⟩ | ⟨b,vs,el,m1,m2,m3,m4,m5⟩
     ·exact .inl ⟨aK.trans m1,Bj.1 (by simpa using e1.symm)⟩
     ·refine .inr ⟨b,vs,el,aK.trans m1,m2,by rw[← e1];exact m3,by rw[← e1];exact m4,fun i e c y hi hc => ?_⟩;obtain ⟨e0,fw⟩:=zu e1 hi;obtain ⟨x,hx⟩:=zu (e2 i e0 e fw hi).1 hc;exact (m5 i e0 c x fw hx).wk ((e2 i e0 e fw hi).2 c x y hx hc)
  ·rw[hb] at k2;cases k2;exact ⟨by simp,.inl ⟨aK.trans (ct s k1),Eq.refl _⟩⟩
 ·have aK:σ1 s=σ s∧st1.hp s≠none:=by
   cases hq:st1.hp s with
   | none=>simp[σ1,hq] at hs
   | some b=>exact ⟨by simp[σ1,hq],by simp⟩
  obtain ⟨k1,k2⟩:=h.dom s b (aK.1 ▸ hs);exact ⟨aK.2,k2⟩
 ·have aK:∀ s b,σ1 s=some b->σ s=some b:=fun s b hs=>by
   cases hq:st1.hp s with
   | none=>simp[σ1,hq] at hs
   | some b=>simpa[σ1,hq] using hs
  exact h.inj s s' b (aK _ _ h1) (aK _ _ h2)
 ·rcases hl.hp s with k | ⟨b,b1,k1,k2,k3⟩ | ⟨k1,_⟩
  ·exact absurd k (hl.kep s hf hn)
  ·rw[he] at k1;cases k1;cases k3 with
   | arr hw=>exact ⟨_,k2,hw.1.symm⟩
  ·exact absurd k1 hn
 ·rcases hl.hp s with k | ⟨b,b1,k1,k2,k3⟩ | ⟨k1,_⟩
  ·exact absurd k (hl.kep s hf hn)
  ·rw[he] at k1;cases k1;cases k3 with
   | var _ _=>exact ⟨_,k2⟩
  ·exact absurd k1 hn
def lC (hl:SWk N st st1):(za S).cv st st1:=fun A0 O w0 A σ w tm h=>h.weaken hl
def cv_refl (st:ASt):(za S).cv st st:=fun A0 O w0 A σ w tm h=>⟨A,σ,h⟩
def zeY {a b c:ASt} (h1:(za S).cv a b) (h2:(za S).cv b c):(za S).cv a c:=fun A0 O w0 A σ w tm h=>by
 obtain ⟨A',σ',h'⟩:=h1 A0 O w0 A σ w tm h;exact h2 A0 O w0 A' σ' w tm h'
end
def zf {α:Type} (k a:Nat) (d x:α) (l:List (Nat×α)):look k d ((a,x) :: l)=if a=k then x else look k d l:=by
 simp only[look];by_cases h:a=k
 ·subst h;simp[AG]
 ·rw[if_neg h];have:Nat.beq a k=false:=by
   cases hb:Nat.beq a k with
   | false=>rfl
   | true=>exact absurd (Bg hb) h
  rw[this]
def zB {a b:Nat}:Nat.beq a b=true↔a=b:=⟨Bg,fun h=>by subst h;exact AG _⟩
def Av (h:THp) (x:TV):AV:=av h (lv h x)
def zbF (s:TSt) (k:Nat):s.toA.fr k=Av s.hp (look k .bot s.fr):=rfl
def zN (s:TSt) (k:Nat):s.toA.hp k=blk s.hp (look k .gone s.hp):=rfl
def leaf:TV->Bool
 | .ag _ | .tp _ | .fn _ _=>false
 | _=>true
def jK (h:THp) (x:TV):leaf (lv1 h x)=true:=by
 cases x with
 | lw s v=>simp only[lv1];repeat' split
           all_goals rfl
 | ls s v off len=>simp only[lv1];repeat' split
                   all_goals rfl
 | pe s v i off=>simp only[lv1];repeat' split
                 all_goals rfl
 | pv s off=>simp only[lv1];repeat' split
             all_goals rfl
 | _=>rfl
def yn (h:THp) (x:TV):lv1 h (lv1 h x)=lv1 h x:=by
 cases x with
 | lw s v=>cases hl:look s .gone h with
  | row v' t xs=>cases hb:v.beq v'<;>simp[lv1,hl,hb]
  | frz v' t xs=>cases hb:v.beq v'<;>simp[lv1,hl,hb]
  | _=>simp[lv1,hl]
 | ls s v off len=>cases hl:look s .gone h with
  | row v' t xs=>cases hb:v.beq v'<;>simp[lv1,hl,hb]
  | _=>simp[lv1,hl]
 | pe s v i off=>cases hl:look s .gone h with
  | row v' t xs=>cases hb:v.beq v'<;>simp[lv1,hl,hb]
  | _=>simp[lv1,hl]
 | pv s off=>cases hl:look s .gone h<;>simp[lv1,hl]
 | _=>rfl
def zcg (h:THp) (x:TV):ze h (lv1 h x)=true:=by
 cases x with
 | lw s v=>cases hl:look s .gone h with
  | row v' t xs=>cases hb:v.beq v'<;>simp[lv1,hl,hb,ze]
  | frz v' t xs=>cases hb:v.beq v'<;>simp[lv1,hl,hb,ze]
  | _=>simp[lv1,hl,ze]
 | ls s v off len=>cases hl:look s .gone h with
  | row v' t xs=>cases hb:v.beq v'<;>simp[lv1,hl,hb,ze]
  | _=>simp[lv1,hl,ze]
 | pe s v i off=>cases hl:look s .gone h with
  | row v' t xs=>cases hb:v.beq v'<;>simp[lv1,hl,hb,ze]
  | _=>simp[lv1,hl,ze]
 | pv s off=>cases hl:look s .gone h<;>simp[lv1,hl,ze]
 | _=>rfl
def dead1 {h:THp} {x:TV} (hx:ze h x=false):lv1 h x=.bot:=by
 cases x with
 | lw s v=>cases hl:look s .gone h<;>simp_all[lv1,ze]
 | ls s v off len=>cases hl:look s .gone h<;>simp_all[lv1,ze]
 | pe s v i off=>cases hl:look s .gone h<;>simp_all[lv1,ze]
 | pv s off=>cases hl:look s .gone h<;>simp_all[lv1,ze]
 | ag=>rfl
 | tp=>rfl
 | fn=>rfl
 | _=>simp[ze] at hx
def ym {h:THp} {x:TV} (hx:leaf x=true):lv2 h x=lv1 h x:=by cases x<;>first | rfl | simp[leaf] at hx
def wa {h:THp} {x:TV} (hx:leaf x=true):lv h x=lv1 h x:=by cases x<;>first | rfl | simp[leaf] at hx
def wm {h:THp} {x:TV} (hx:leaf x=true):av2 h x=av1 h x:=by cases x<;>first | rfl | simp[leaf] at hx
def zbz {h:THp} {x:TV} (hx:leaf x=true):av h x=av1 h x:=by cases x<;>first | rfl | simp[leaf] at hx
def qL {h:THp} {x:TV} (hx:leaf x=true):zy h x=ze h x:=by cases x<;>first | rfl | simp[leaf] at hx
def A1 (h:THp) (x:TV):AV:=av1 h (lv1 h x)
def A2 (h:THp) (x:TV):AV:=av2 h (lv2 h x)
def qC {h:THp} {x:TV} (hx:leaf x=true):Av h x=A1 h x:=by rw[Av,wa hx,zbz (jK h x)];rfl
def jB {h:THp} {x:TV} (hx:leaf x=true):A2 h x=A1 h x:=by rw[A2,ym hx,wm (jK h x)];rfl
def yc (h:THp) (cs:List TV):A2 h (.ag cs)=if cs.all (ze h)=true then .agg (cs.map (A1 h)) else .bot:=by
 simp only[A2,lv2];cases hb:cs.all (ze h)
 ·rfl
 ·simp only[av2,AU,if_true];rfl
def dX (h:THp) (cs:List TV):Av h (.ag cs)=if cs.all (ze h)=true then .agg (cs.map (A1 h)) else .bot:=by rw[← yc];simp only[Av,A2,lv,lv2];cases hb:cs.all (ze h)<;>rfl
def dC (h:THp) (cs:List TV):Av h (.tp cs)=if cs.all (zy h)=true then .tup (cs.map (A2 h)) else .bot:=by
 simp only[Av,lv];cases hb:cs.all (zy h)
 ·rfl
 ·simp only[av,AU,if_true];rfl
def zaH (h:THp) (f:Nat) (cs:List TV):Av h (.fn f cs)=if cs.all (zy h)=true then .fn f (cs.map (A2 h)) else .bot:=by
 simp only[Av,lv];cases hb:cs.all (zy h)
 ·rfl
 ·simp only[av,AU,if_true];rfl
def yw {α β:Type} {f:β->Bool} {g:α->β} (l:List α) (h:∀ x,f (g x)=true):(l.map g).all f=true:=by rw[all_map,Af];exact fun x _=>h x
def zeI (h:THp) (x:TV):lv2 h (lv2 h x)=lv2 h x:=by
 by_cases hx:leaf x=true
 ·rw[ym hx,ym (jK h x),yn]
 ·cases x with
  | ag cs =>
   simp only[lv2];cases hb:cs.all (ze h)
   ·rfl
   ·simp only[lv2,yw cs (zcg h),AU];congr 1;exact Al fun y _=>yn h y
  | tp=>rfl
  | fn=>rfl
  | _=>simp[leaf] at hx
def jM (h:THp) (x:TV):zy h (lv2 h x)=true:=by
 by_cases hx:leaf x=true
 ·rw[ym hx,qL (jK h x)];exact zcg h x
 ·cases x with
  | ag cs =>
   simp only[lv2];cases hb:cs.all (ze h)
   ·rfl
   ·simp only[zy,yw cs (zcg h)]
  | tp=>rfl
  | fn=>rfl
  | _=>simp[leaf] at hx
def lv_idem (h:THp) (x:TV):lv h (lv h x)=lv h x:=by
 by_cases hx:leaf x=true
 ·rw[wa hx,wa (jK h x),yn]
 ·cases x with
  | ag cs =>
   have:=zeI h (.ag cs);simp only[lv,lv2] at this ⊢;cases hb:cs.all (ze h)
   ·rfl
   ·rw[hb] at this;exact this
  | tp cs =>
   simp only[lv];cases hb:cs.all (zy h)
   ·rfl
   ·simp only[lv,yw cs (jM h),AU];congr 1;exact Al fun y _=>zeI h y
  | fn f cs =>
   simp only[lv];cases hb:cs.all (zy h)
   ·rfl
   ·simp only[lv,yw cs (jM h),AU];congr 1;exact Al fun y _=>zeI h y
  | _=>simp[leaf] at hx
def Av_lv (h:THp) (x:TV):Av h (lv h x)=Av h x:=by rw[Av,lv_idem];rfl
def av_cst (h:THp) (x:Value):Av h (cst x)=.v x:=by
 unfold cst
 split<;>rfl
def ev_Av (s:TSt) (x:AOpd):s.toA.ev x=Av s.hp (s.ev x):=by
 cases x with
 | t n=>simp only[ASt.ev,TSt.ev,zbF,Av_lv]
 | c x=>simp only[ASt.ev,TSt.ev,av_cst]
 | f id=>rfl
def wl (s:TSt) (x:AOpd):lv s.hp (s.ev x)=s.ev x:=by
 cases x with
 | t n=>simp only[TSt.ev,lv_idem]
 | c x=>simp only[TSt.ev];unfold cst;split<;>rfl
 | f id=>rfl
def zE (s:TSt) (x:AOpd):s.toA.ev x=av s.hp (s.ev x):=by rw[ev_Av,Av,wl]
def zdz {h:THp} {x:TV} {s:Nat} (hs:s∈(A1 h x).refs):blk h (look s .gone h)≠none:=by
 cases x with
 | lw r v=>cases hr:look r .gone h with
  | row v' t xs=>cases hb:v.beq v'<;>simp_all[A1,lv1,av1,AV.refs,blk]
  | frz v' t xs=>cases hb:v.beq v'<;>simp_all[A1,lv1,av1,AV.refs,blk]
  | _=>simp_all[A1,lv1,av1,AV.refs]
 | ls r v off len=>cases hr:look r .gone h with
  | row v' t xs=>cases hb:v.beq v'<;>simp_all[A1,lv1,av1,AV.refs,blk]
  | _=>simp_all[A1,lv1,av1,AV.refs]
 | pe r v i off=>cases hr:look r .gone h with
  | row v' t xs=>cases hb:v.beq v'<;>simp_all[A1,lv1,av1,AV.refs,blk]
  | _=>simp_all[A1,lv1,av1,AV.refs]
 | pv r off=>cases hr:look r .gone h<;>simp_all[A1,lv1,av1,AV.refs,blk]
 | e x=>cases x<;>simp[A1,lv1,av1,Err.av,AV.refs,aI] at hs
 | ns t x=>cases x<;>simp[A1,lv1,av1,AV.refs,aN] at hs
 | _=>simp[A1,lv1,av1,AV.refs,aI,aU,aB,aS,aN,ud] at hs
def zhK {h:THp} {x:TV} {s:Nat} (hs:s∈(A2 h x).refs):blk h (look s .gone h)≠none:=by
 by_cases hx:leaf x=true
 ·rw[jB hx] at hs;exact zdz hs
 ·cases x with
  | ag cs =>
   rw[yc] at hs;split at hs
   ·simp only[AV.refs,zd,Ap] at hs;obtain ⟨_,⟨y,hy,rfl⟩,hs⟩:=hs;exact zdz hs
   ·simp[AV.refs] at hs
  | tp=>simp[A2,lv2,lv1,av2,av1,AV.refs] at hs
  | fn=>simp[A2,lv2,lv1,av2,av1,AV.refs] at hs
  | _=>simp[leaf] at hx
def Av_refs {h:THp} {x:TV} {s:Nat} (hs:s∈(Av h x).refs):blk h (look s .gone h)≠none:=by
 by_cases hx:leaf x=true
 ·rw[qC hx] at hs;exact zdz hs
 ·cases x with
  | ag cs =>rw[dX,← yc] at hs;exact zhK hs
  | tp cs =>
   rw[dC] at hs;split at hs
   ·simp only[AV.refs,zd,Ap] at hs;obtain ⟨_,⟨y,hy,rfl⟩,hs⟩:=hs;exact zhK hs
   ·simp[AV.refs] at hs
  | fn f cs =>
   rw[zaH] at hs;split at hs
   ·simp only[AV.refs,zd,Ap] at hs;obtain ⟨_,⟨y,hy,rfl⟩,hs⟩:=hs;exact zhK hs
   ·simp[AV.refs] at hs
  | _=>simp[leaf] at hx
def zek (s:TSt) (k r:Nat) (h:r∈(s.toA.fr k).refs):s.toA.hp r≠none:=Av_refs h
def zcl (s:TSt) (r:Nat) (cs:List AV) (h:s.toA.hp r=some (.var cs)) (r':Nat) (hr:r'∈AV.refsL cs):s.toA.hp r'≠none:=by
 rw[zN] at h;cases hb:look r .gone s.hp with
 | var vs =>rw[hb] at h;simp only[blk,Option.some.injEq,Blk.var.injEq] at h;subst h;simp only[zd,Ap] at hr;obtain ⟨_,⟨y,hy,rfl⟩,hr⟩:=hr;exact zdz hr
 | _=>rw[hb] at h;simp[blk] at h
def SWk.mk' {N:Nat->Prop} {st:ASt} {s1:TSt} (hf:∀ k,Wk N (st.fr k) (s1.toA.fr k))
  (hh:∀ s,(s1.toA.hp s=none∧(zav s=true->st.hp s=none))∨(∃ b b1,st.hp s=some b∧s1.toA.hp s=some b1∧BWk N b b1)∨(st.hp s=none∧∃ z,s1.toA.hp s=some (.arr z []))) (hn:∀ r,N r->st.hp r=none):SWk N st s1.toA :=
 ⟨hf,fun s hs hn=>by
  rcases hh s with ⟨_,k⟩ | ⟨b,b1,_,k,_⟩ | ⟨k,_⟩
  ·exact absurd (k hs) hn
  ·rw[k];simp
  ·exact absurd k hn,fun s=>(hh s).imp And.left id,hn,zek s1,zcl s1⟩
def qW:TV->List TV
 | .ag cs=>cs
 | x=>[x]
def zaW:TV->List TV
 | .tp vs | .fn _ vs=>vs.flatMap qW
 | x=>qW x
structure LE (h h1:THp) (y:TV):Prop where
 live:ze h1 y=ze h y
 av:A1 h1 y=A1 h y
def LO (h h1:THp) (y:TV):Prop:=ze h1 y=false∨LE h h1 y
def zah {α:Type} {f g:α->Bool}:∀ {l:List α},(∀ y∈l,f y=g y)->l.all f=l.all g
 | [],_=>rfl
 | a :: r,h=>by simp only[AR,h a Ah,zah fun y hy=>h y (Ad _ hy)]
def we {x:TV} (hx:leaf x=true):qW x=[x]:=by cases x<;>first | rfl | simp[leaf] at hx
def w8 {x:TV} (hx:leaf x=true):zaW x=[x]:=by cases x<;>first | rfl | simp[leaf] at hx
def zaI {h:THp} {x:TV} (hx:ze h x=false):A1 h x=.bot:=by rw[A1,dead1 hx];rfl
def LE.two {h h1:THp} {x:TV} (hs:∀ y∈qW x,LE h h1 y):zy h1 x=zy h x∧A2 h1 x=A2 h x:=by
 by_cases hx:leaf x=true
 ·have h0:=hs x (by rw[we hx];simp);rw[qL hx,qL hx,jB hx,jB hx];exact ⟨h0.live,h0.av⟩
 ·cases x with
  | ag cs =>have e:cs.all (ze h1)=cs.all (ze h):=zah fun y hy=>(hs y (by simpa[qW] using hy)).live;refine ⟨e, ?_⟩;have ae:∀ y∈cs,LE h h1 y:=hs;rw[yc,yc,e,Al fun y hy=>(ae y hy).av]
  | tp=>exact ⟨rfl,rfl⟩
  | fn=>exact ⟨rfl,rfl⟩
  | _=>simp[leaf] at hx
def LE.all {h h1:THp} {x:TV} (hs:∀ y∈zaW x,LE h h1 y):Av h1 x=Av h x:=by
 by_cases hx:leaf x=true
 ·have h0:LE h h1 x:=hs x (by rw[w8 hx];simp);rw[qC hx,qC hx,h0.av]
 ·cases x with
  | ag cs=>rw[dX,dX,← yc,← yc];exact (LE.two (x:=.ag cs) hs).2
  | tp cs =>have h2:∀ y∈cs,zy h1 y=zy h y∧A2 h1 y=A2 h y:=fun y hy=>LE.two fun z hz=>hs z (Bx.2 ⟨y,hy,hz⟩);rw[dC,dC,show cs.all (zy h1)=cs.all (zy h) from zah fun y hy=>(h2 y hy).1,Al fun y hy=>(h2 y hy).2]
  | fn f cs =>have h2:∀ y∈cs,zy h1 y=zy h y∧A2 h1 y=A2 h y:=fun y hy=>LE.two fun z hz=>hs z (Bx.2 ⟨y,hy,hz⟩);rw[zaH,zaH,show cs.all (zy h1)=cs.all (zy h) from zah fun y hy=>(h2 y hy).1,Al fun y hy=>(h2 y hy).2]
  | _=>simp[leaf] at hx
def LO.two {h h1:THp} {x:TV} (hs:∀ y∈qW x,LO h h1 y) (hl:zy h1 x=true):zy h x=true∧A2 h1 x=A2 h x:=by
 have one:∀ y,LO h h1 y->ze h1 y=true->ze h y=true∧A1 h1 y=A1 h y:=by
  rintro y (h2 | h2) hy
  ·rw[h2] at hy;cases hy
  ·exact ⟨h2.live.symm.trans hy,h2.av⟩
 by_cases hx:leaf x=true
 ·rw[qL hx] at hl;rw[qL hx,jB hx,jB hx];exact one _ (hs x (by rw[we hx];simp)) hl
 ·cases x with
  | ag cs =>have h2:∀ y∈cs,ze h y=true∧A1 h1 y=A1 h y:=fun y hy=>one y (hs y hy) (Af.1 hl y hy);have e:cs.all (ze h)=true:=Af.2 fun y hy=>(h2 y hy).1;refine ⟨e, ?_⟩;have bl:cs.all (ze h1)=true:=hl;rw[yc,yc,if_pos bl,if_pos e,Al fun y hy=>(h2 y hy).2]
  | tp=>simp[zy,ze] at hl
  | fn=>simp[zy,ze] at hl
  | _=>simp[leaf] at hx
def LO.all {h h1:THp} {x:TV} (hs:∀ y∈zaW x,LO h h1 y):Av h1 x=.bot∨Av h1 x=Av h x:=by
 by_cases hx:leaf x=true
 ·have h0:LO h h1 x:=hs x (by rw[w8 hx];simp);rw[qC hx,qC hx];exact h0.imp zaI fun h0=>h0.av
 ·cases x with
  | ag cs =>
   rw[dX,dX,← yc,← yc];cases hb:zy h1 (.ag cs) with
   | true=>exact .inr (LO.two (x:=.ag cs) hs hb).2
   | false =>left;rw[yc,if_neg];simp only[zy] at hb;rw[hb];simp
  | tp cs =>
   have h2:∀ y∈cs,zy h1 y=true->zy h y=true∧A2 h1 y=A2 h y:=fun y hy=>LO.two fun z hz=>hs z (Bx.2 ⟨y,hy,hz⟩);rw[dC,dC];split
   ·rename_i hb;have ay:=Af.1 hb;rw[if_pos (Af.2 fun y hy=>(h2 y hy (ay y hy)).1),Al fun y hy=>(h2 y hy (ay y hy)).2];exact .inr rfl
   ·exact .inl rfl
  | fn f cs =>
   have h2:∀ y∈cs,zy h1 y=true->zy h y=true∧A2 h1 y=A2 h y:=fun y hy=>LO.two fun z hz=>hs z (Bx.2 ⟨y,hy,hz⟩);rw[zaH,zaH];split
   ·rename_i hb;have ay:=Af.1 hb;rw[if_pos (Af.2 fun y hy=>(h2 y hy (ay y hy)).1),Al fun y hy=>(h2 y hy (ay y hy)).2];exact .inr rfl
   ·exact .inl rfl
  | _=>simp[leaf] at hx
def LO.wk {N:Nat->Prop} {h h1:THp} {x:TV} (hs:∀ y∈zaW x,LO h h1 y):Wk N (Av h x) (Av h1 x):=by
 rcases LO.all hs with e | e<;>rw[e]
 ·exact .bot _
 ·exact .rfl _
def wV {α:Type} {f:α->Bool}:∀ {l:List α},l.any f=false->∀ y∈l,f y=false
 | a :: r,h,y,hy=>by
  simp only[Cz,BK] at h;rcases Aq.1 hy with rfl | hy
  ·exact h.1
  ·exact wV h.2 y hy
def zeZ {d:Nat} {b:TB} {x:TV} (h:cl d b x=false):∀ y∈zaW x,cl1 d b y=false:=by
 have two:∀ x,cl2 d b x=false->∀ y∈qW x,cl1 d b y=false:=by
  intro x h y hy;by_cases hx:leaf x=true
  ·rw[we hx,Ai] at hy;subst hy;cases y<;>first | exact h | simp[leaf] at hx
  ·cases x with
   | ag cs=>exact wV h y hy
   | tp=>simp only[qW,Ai] at hy;subst hy;exact h
   | fn=>simp only[qW,Ai] at hy;subst hy;exact h
   | _=>simp[leaf] at hx
 intro y hy;cases x with
 | tp cs =>obtain ⟨z,hz,hy⟩:=Bx.1 hy;exact two z (wV h z hz) y hy
 | fn f cs =>obtain ⟨z,hz,hy⟩:=Bx.1 hy;exact two z (wV h z hz) y hy
 | ag cs=>exact two (.ag cs) h y hy
 | _ =>simp only[zaW,qW,Ai] at hy;subst hy;exact h
def wd {α:Type} {k:Nat} {d:α}:∀ {l:List (Nat×α)},look k d l=d∨(k,look k d l)∈l
 | []=>.inl rfl
 | (a,x) :: r=>by
  rw[zf];split
  ·rename_i e;subst e;exact .inr Ah
  ·rcases wd (k:=k) (d:=d) (l:=r) with h | h
   ·exact .inl h
   ·exact .inr (Ad _ h)
inductive Chg (h:THp) (d:Nat):TB->Prop
 | newV {cs:List TV}:look d .gone h=.gone->Chg h d (.var cs)
 | newR {n:Nat} {t:Ty} {xs:List t.den}:look d .gone h=.gone->Chg h d (.row n t xs)
 | var {cs an:List TV}:look d .gone h=.var cs->Chg h d (.var an)
 | row {v:Nat} {t:Ty} {xs xs':List t.den}:look d .gone h=.row v t xs->xs'.length=xs.length->Chg h d (.row v t xs')
def push1 {h:THp} {d:Nat} {b:TB} (hc:Chg h d b) {y:TV} (hn:look d .gone h=.gone->cl1 d b y=false):LE h ((d,b) :: h) y:=by
 have other:∀ r,d≠r->look r .gone ((d,b) :: h)=look r .gone h:=fun r hr=>by rw[zf,if_neg hr]
 have here:look d .gone ((d,b) :: h)=b:=by rw[zf,if_pos rfl]
 cases y with
 | lw r v =>
  by_cases hr:d=r
  ·subst hr;cases hc with
   | newV h0=>exact ⟨by simp only[ze,here,h0],by simp only[A1,lv1,here,h0,av1]⟩
   | newR h0 =>have:=hn h0;simp only[cl1,AG,A4] at this;exact ⟨by simp only[ze,here,h0,this],by simp only[A1,lv1,here,h0,this,av1]⟩
   | var h0=>exact ⟨by simp only[ze,here,h0],by simp only[A1,lv1,here,h0,av1]⟩
   | @row v' t xs xs' h0 h1 =>
    refine ⟨by simp only[ze,here,h0], ?_⟩;simp only[A1,lv1,here,h0];cases hb:v.beq v' with
    | true=>simp only[av1,here,h0,h1]
    | false=>rfl
  ·exact ⟨by simp only[ze,other r hr],by
    simp only[A1,lv1,other r hr]
    repeat' split
    all_goals simp only[av1,other r hr]⟩
 | ls r v off len =>
  by_cases hr:d=r
  ·subst hr;cases hc with
   | newV h0=>exact ⟨by simp only[ze,here,h0],by simp only[A1,lv1,here,h0,av1]⟩
   | newR h0 =>have:=hn h0;simp only[cl1,AG,A4] at this;exact ⟨by simp only[ze,here,h0,this],by simp only[A1,lv1,here,h0,this,av1]⟩
   | var h0=>exact ⟨by simp only[ze,here,h0],by simp only[A1,lv1,here,h0,av1]⟩
   | @row v' t xs xs' h0 h1 =>
    refine ⟨by simp only[ze,here,h0], ?_⟩;simp only[A1,lv1,here,h0];cases hb:v.beq v' with
    | true=>simp only[av1,here,h0]
    | false=>rfl
  ·exact ⟨by simp only[ze,other r hr],by
    simp only[A1,lv1,other r hr]
    repeat' split
    all_goals simp only[av1,other r hr]⟩
 | pe r v i off =>
  by_cases hr:d=r
  ·subst hr;cases hc with
   | newV h0=>exact ⟨by simp only[ze,here,h0],by simp only[A1,lv1,here,h0,av1]⟩
   | newR h0 =>have:=hn h0;simp only[cl1,AG,A4] at this;exact ⟨by simp only[ze,here,h0,this],by simp only[A1,lv1,here,h0,this,av1]⟩
   | var h0=>exact ⟨by simp only[ze,here,h0],by simp only[A1,lv1,here,h0,av1]⟩
   | @row v' t xs xs' h0 h1 =>
    refine ⟨by simp only[ze,here,h0], ?_⟩;simp only[A1,lv1,here,h0];cases hb:v.beq v' with
    | true=>simp only[av1,here,h0]
    | false=>rfl
  ·exact ⟨by simp only[ze,other r hr],by
    simp only[A1,lv1,other r hr]
    repeat' split
    all_goals simp only[av1,other r hr]⟩
 | pv r off =>
  by_cases hr:d=r
  ·subst hr;cases hc with
   | newV h0 =>have:=hn h0;simp[cl1,AG] at this
   | newR h0=>exact ⟨by simp only[ze,here,h0],by simp only[A1,lv1,here,h0,av1]⟩
   | var h0=>exact ⟨by simp only[ze,here,h0],by simp only[A1,lv1,here,h0,av1]⟩
   | row h0 h1=>exact ⟨by simp only[ze,here,h0],by simp only[A1,lv1,here,h0,av1]⟩
  ·exact ⟨by simp only[ze,other r hr],by
    simp only[A1,lv1,other r hr]
    repeat' split
    all_goals simp only[av1]⟩
 | ns t x=>cases x<;>exact ⟨rfl,rfl⟩
 | _=>exact ⟨rfl,rfl⟩
def jj {s:TSt} {d:Nat} {b:TB} (hc:Chg s.hp d b) (hf:look d .gone s.hp=.gone->jy d b s=true):(s.push [(d,b)]).toA=s.toA.setH d (blk ((d,b) :: s.hp) b):=by
 have aM:∀ x,(x=TV.bot∨∃ k,(k,x)∈s.fr)->∀ y∈zaW x,LE s.hp ((d,b) :: s.hp) y:=by
  intro x hx y hy;refine push1 hc fun hg => ?_;rcases hx with rfl | ⟨k,hk⟩
  ·simp only[zaW,qW,Ai] at hy;subst hy;rfl
  ·have:=(Au.1 (hf hg)).1;have:=Af.1 this _ hk;exact zeZ (by simpa using this) y hy
 have cO:(s.push [(d,b)]).toA.fr=s.toA.fr:=(by funext k;simp only[zbF,TSt.push,As,AA];exact LE.all (aM _ (wd.imp id fun h=>⟨k,h⟩)));have cV:(s.push [(d,b)]).toA.hp=upd s.toA.hp d (blk ((d,b) :: s.hp) b):=by
  funext r;simp only[zN,TSt.push,As,AA,upd,zf];by_cases hr:d=r
  ·subst hr;simp
  ·rw[if_neg hr,if_neg (Ne.symm hr)];cases hb:look r .gone s.hp with
   | var cs =>
    simp only[blk,Option.some.injEq,Blk.var.injEq];refine Al fun y hy => ?_;have hle:LE s.hp ((d,b) :: s.hp) y:=push1 hc fun hg=>by
     have h2:=(Au.1 (hf hg)).2;rcases wd (k:=r) (d:=TB.gone) (l:=s.hp) with h | h
     ·rw[h] at hb;cases hb
     ·rw[hb] at h;have:=Af.1 h2 _ h;simp only at this;simpa using Af.1 this y hy
    exact hle.av
   | _=>rfl
 show (⟨(s.push [(d,b)]).toA.fr,(s.push [(d,b)]).toA.hp⟩:ASt)=⟨s.toA.fr,upd s.toA.hp d (blk ((d,b) :: s.hp) b)⟩;rw[cO,cV]
def qj (s:TSt) (d:Option Nat) (x:TV):(s.putO d x).toA=s.toA.putO d (Av s.hp x):=by
 cases d with
 | none=>rfl
 | some d =>
  simp only[TSt.putO,TSt.put,ASt.putO,ASt.put,TSt.toA];congr 1;funext k;simp only[zf,upd];by_cases hk:d=k
  ·subst hk;simp[Av]
  ·rw[if_neg hk,if_neg (Ne.symm hk)]
def yC (s:TSt):(s.push []).toA=s.toA:=rfl
def scr1 {h:THp} {r v n:Nat} {t t':Ty} {xs:List t.den} {xs':List t'.den} (h0:look r .gone h=.row v t xs) {y:TV} (hn:cl1 r (.row n .int []) y=false) :
  ze ((r,.row n t' xs') :: h) y=(ze h y && !((A1 h y).refs.contains r))∧(ze ((r,.row n t' xs') :: h) y=true->A1 ((r,.row n t' xs') :: h) y=A1 h y):=by
 have other:∀ k,r≠k->look k .gone ((r,TB.row n t' xs') :: h)=look k .gone h:=fun k hk=>by rw[zf,if_neg hk]
 have here:look r .gone ((r,TB.row n t' xs') :: h)=.row n t' xs':=by rw[zf,if_pos rfl]
 have fin:∀ (b:Bool) (a:AV),(b=true->r ∉ a.refs)->b=(b && !(a.refs.contains r)):=by
  intro b a ha;cases b with
  | false=>rfl
  | true=>simp[AP,ha rfl]
 cases y with
 | lw k w =>
  by_cases hk:r=k
  ·subst hk;simp only[cl1,AG,A4] at hn;refine ⟨?_,fun hl => ?_⟩
   ·simp only[ze,here,hn,h0,A1,lv1];cases hb:w.beq v with
    | false=>rfl
    | true=>simp[av1,h0,AV.refs]
   ·simp only[ze,here,hn] at hl;cases hl
  ·refine ⟨?_,fun _ => ?_⟩
   ·rw[show ze ((r,TB.row n t' xs') :: h) (.lw k w)=ze h (.lw k w) by simp only[ze,other k hk]];refine fin _ _ fun _ hm => ?_;have:=(by
     simp only[A1,lv1] at hm
     repeat' split at hm
     all_goals (first | (simp only[av1] at hm;repeat' split at hm) | skip)
     all_goals (simp[AV.refs] at hm)
     all_goals exact hm:r=k)
    exact hk this
   ·simp only[A1,lv1,other k hk]
    repeat' split
    all_goals simp only[av1,other k hk]
 | ls k w off len =>
  by_cases hk:r=k
  ·subst hk;simp only[cl1,AG,A4] at hn;refine ⟨?_,fun hl => ?_⟩
   ·simp only[ze,here,hn,h0,A1,lv1];cases hb:w.beq v with
    | false=>rfl
    | true=>simp[av1,h0,AV.refs]
   ·simp only[ze,here,hn] at hl;cases hl
  ·refine ⟨?_,fun _ => ?_⟩
   ·rw[show ze ((r,TB.row n t' xs') :: h) (.ls k w off len)=ze h (.ls k w off len) by simp only[ze,other k hk]];refine fin _ _ fun _ hm => ?_;have:=(by
     simp only[A1,lv1] at hm
     repeat' split at hm
     all_goals (first | (simp only[av1] at hm;repeat' split at hm) | skip)
     all_goals (simp[AV.refs] at hm)
     all_goals exact hm:r=k)
    exact hk this
   ·simp only[A1,lv1,other k hk]
    repeat' split
    all_goals simp only[av1,other k hk]
 | pe k w i off =>
  by_cases hk:r=k
  ·subst hk;simp only[cl1,AG,A4] at hn;refine ⟨?_,fun hl => ?_⟩
   ·simp only[ze,here,hn,h0,A1,lv1];cases hb:w.beq v with
    | false=>rfl
    | true=>simp[av1,h0,AV.refs]
   ·simp only[ze,here,hn] at hl;cases hl
  ·refine ⟨?_,fun _ => ?_⟩
   ·rw[show ze ((r,TB.row n t' xs') :: h) (.pe k w i off)=ze h (.pe k w i off) by simp only[ze,other k hk]];refine fin _ _ fun _ hm => ?_;have:=(by
     simp only[A1,lv1] at hm
     repeat' split at hm
     all_goals (first | (simp only[av1] at hm;repeat' split at hm) | skip)
     all_goals (simp[AV.refs] at hm)
     all_goals exact hm:r=k)
    exact hk this
   ·simp only[A1,lv1,other k hk]
    repeat' split
    all_goals simp only[av1,other k hk]
 | pv k off =>
  by_cases hk:r=k
  ·subst hk;exact ⟨by simp only[ze,here,h0,Cr],fun hl=>by simp only[ze,here] at hl;cases hl⟩
  ·refine ⟨?_,fun _ => ?_⟩
   ·rw[show ze ((r,TB.row n t' xs') :: h) (.pv k off)=ze h (.pv k off) by simp only[ze,other k hk]];refine fin _ _ fun _ hm => ?_;have:=(by
     simp only[A1,lv1] at hm
     repeat' split at hm
     all_goals simp[av1,AV.refs] at hm
     all_goals exact hm:r=k)
    exact hk this
   ·simp only[A1,lv1,other k hk]
    repeat' split
    all_goals simp only[av1]
 | e x=>exact ⟨by cases x<;>simp[ze,A1,lv1,av1,Err.av,AV.refs,aI],fun _=>rfl⟩
 | ns t x=>exact ⟨by cases x<;>simp[ze,A1,lv1,av1,AV.refs,aN],fun _=>by cases x<;>rfl⟩
 | ag=>exact ⟨rfl,fun _=>rfl⟩
 | tp=>exact ⟨rfl,fun _=>rfl⟩
 | fn=>exact ⟨rfl,fun _=>rfl⟩
 | _=>exact ⟨by simp[ze,A1,lv1,av1,AV.refs,aI,aU,aB,aS,aN,ud],fun _=>rfl⟩
def qA (l:List AV) (r:Nat):(AV.refsL l).contains r=l.any fun x=>x.refs.contains r:=by
 induction l with
 | nil=>rfl
 | cons a l ih=>rw[AV.refsL,Cz,← ih];simp[AP,Ao]
def qV {α:Type} {f g g':α->Bool}:∀ {l:List α},(∀ y∈l,g y=(f y && !g' y))->l.all g=(l.all f && !(l.any g'))
 | [],_=>rfl
 | a :: r,h=>by
  simp only[AR,Cz,h a Ah,qV fun y hy=>h y (Ad _ hy)];cases f a<;>cases g' a<;>cases r.all f<;>cases r.any g'<;>rfl
def scr2 {h:THp} {r v n:Nat} {t t':Ty} {xs:List t.den} {xs':List t'.den} (h0:look r .gone h=.row v t xs) {x:TV} (hn:∀ y∈qW x,cl1 r (.row n .int []) y=false) :
  zy ((r,.row n t' xs') :: h) x=(zy h x && !((A2 h x).refs.contains r))∧(zy ((r,.row n t' xs') :: h) x=true->A2 ((r,.row n t' xs') :: h) x=A2 h x):=by
 by_cases hx:leaf x=true
 ·have:=scr1 (t':=t') (xs':=xs') h0 (hn x (by rw[we hx];simp));simp only[qL hx,jB hx];exact this
 ·cases x with
  | ag cs =>
   have h1:=fun y (hy:y∈cs)=>scr1 (t':=t') (xs':=xs') h0 (hn y hy);have e:cs.all (ze ((r,.row n t' xs') :: h))=(cs.all (ze h) && !(cs.any fun y=>(A1 h y).refs.contains r)):=qV fun y hy=>(h1 y hy).1;refine ⟨?_,fun hl => ?_⟩
   ·simp only[zy];rw[e,yc];cases ha:cs.all (ze h) with
    | false=>rfl
    | true=>simp only[if_true,AV.refs,qA,B5,A4];rfl
   ·simp only[zy] at hl;have e9:=hl;rw[e] at e9;rw[yc,yc,if_pos hl,if_pos (Au.1 e9).1,Al fun y hy=>(h1 y hy).2 (Af.1 hl y hy)]
  | tp=>exact ⟨rfl,fun _=>rfl⟩
  | fn=>exact ⟨rfl,fun _=>rfl⟩
  | _=>simp[leaf] at hx
def js {r:Nat} {b b':Bool} {X X':AV} (hb:b'=(b && !(X.refs.contains r))) (hx:b'=true->X'=X):(if b'=true then X' else .bot)=scrub r (if b=true then X else .bot):=by
 cases b with
 | false=>rw[hb];simp[scrub,AV.refs]
 | true =>
  simp only[A4] at hb;cases hc:X.refs.contains r with
  | true=>rw[hc] at hb;rw[hb];simp only[Bf,Am,if_false,if_true,scrub,hc]
  | false=>rw[hc] at hb;rw[if_pos (by simpa using hb),hx (by simpa using hb)];simp only[if_true,scrub,hc,Am,if_false]
def scr3 {h:THp} {r v n:Nat} {t t':Ty} {xs:List t.den} {xs':List t'.den} (h0:look r .gone h=.row v t xs) {x:TV} (hn:∀ y∈zaW x,cl1 r (.row n .int []) y=false) :
  Av ((r,.row n t' xs') :: h) x=scrub r (Av h x):=by
 by_cases hx:leaf x=true
 ·rw[qC hx,qC hx];have key:=scr1 (t':=t') (xs':=xs') h0 (hn x (by rw[w8 hx];simp));have:=js key.1 key.2;have e1:∀ h:THp,(if ze h x=true then A1 h x else .bot)=A1 h x:=fun h=>by
   cases hb:ze h x with
   | true=>rfl
   | false=>rw[zaI hb];rfl
  rwa [e1,e1] at this
 ·have top:∀ (cs:List TV),(∀ y∈cs,∀ z∈qW y,cl1 r (.row n .int []) z=false)->cs.all (zy ((r,.row n t' xs') :: h))=(cs.all (zy h) && !(AV.refsL (cs.map (A2 h))).contains r) ∧
   (cs.all (zy ((r,.row n t' xs') :: h))=true->cs.map (A2 ((r,.row n t' xs') :: h))=cs.map (A2 h)):=by
   intro cs hc;have h1:=fun y (hy:y∈cs)=>scr2 (t':=t') (xs':=xs') h0 (hc y hy);refine ⟨?_,fun hl=>Al fun y hy=>(h1 y hy).2 (Af.1 hl y hy)⟩;simp only[qA,B5];exact qV fun y hy=>(h1 y hy).1
  cases x with
  | ag cs =>have h1:=fun y (hy:y∈cs)=>scr1 (t':=t') (xs':=xs') h0 (hn y (by simpa[zaW,qW] using hy));have e:cs.all (ze ((r,.row n t' xs') :: h))=(cs.all (ze h) && !((AV.agg (cs.map (A1 h))).refs.contains r)):=(by simp only[AV.refs,qA,B5];exact qV fun y hy=>(h1 y hy).1);rw[dX,dX];exact js e fun hl=>by rw[Al fun y hy=>(h1 y hy).2 (Af.1 hl y hy)]
  | tp cs =>have:=top cs fun y hy z hz=>hn z (Bx.2 ⟨y,hy,hz⟩);rw[dC,dC];exact js (by rw[AV.refs];exact this.1) fun hl=>by rw[this.2 hl]
  | fn f cs =>have:=top cs fun y hy z hz=>hn z (Bx.2 ⟨y,hy,hz⟩);rw[zaH,zaH];exact js (by rw[AV.refs];exact this.1) fun hl=>by rw[this.2 hl]
  | _=>simp[leaf] at hx
def toA_app {s:TSt} {r v n:Nat} {t t':Ty} {xs:List t.den} {xs':List t'.den} (h0:look r .gone s.hp=.row v t xs) (hf:jy r (.row n .int []) s=true) :
  (s.push [(r,.row n t' xs')]).toA=(s.toA.scrub r).setH r (some (.arr t'.z (xs'.map t'.cells))):=by
 have cO:(s.push [(r,.row n t' xs')]).toA.fr=(s.toA.scrub r).fr:=by
  funext k;simp only[zbF,TSt.push,As,AA,ASt.scrub];refine scr3 h0 ?_;rcases wd (k:=k) (d:=TV.bot) (l:=s.fr) with h | h
  ·rw[h];intro y hy;simp only[zaW,qW,Ai] at hy;subst hy;rfl
  ·have:=Af.1 (Au.1 hf).1 _ h;exact zeZ (by simpa using this)
 have cV:(s.push [(r,.row n t' xs')]).toA.hp=upd (s.toA.scrub r).hp r (some (.arr t'.z (xs'.map t'.cells))):=by
  funext k;simp only[zN,TSt.push,As,AA,upd,zf,ASt.scrub];by_cases hr:r=k
  ·subst hr;simp[blk]
  ·rw[if_neg hr,if_neg (Ne.symm hr)];cases hb:look k .gone s.hp with
   | var cs =>
    simp only[blk,AE,ws,Option.some.injEq,Blk.var.injEq,AU];refine Al fun y hy => ?_;simp only[Function.comp];have aM:cl1 r (.row n .int []) y=false:=by
     rcases wd (k:=k) (d:=TB.gone) (l:=s.hp) with h | h
     ·rw[h] at hb;cases hb
     ·rw[hb] at h;have:=Af.1 (Au.1 hf).2 _ h;simp only at this;simpa using Af.1 this y hy
    by_cases hy:leaf y=true
    ·have:=scr3 (t':=t') (xs':=xs') h0 (x:=y) (by rw[w8 hy];intro z hz;rw[Ai] at hz;subst hz;exact aM)
     rwa [qC hy,qC hy] at this
    ·cases y<;>first | rfl | simp[leaf] at hy
   | _=>rfl
 show (⟨(s.push [(r,.row n t' xs')]).toA.fr,(s.push [(r,.row n t' xs')]).toA.hp⟩:ASt)=⟨(s.toA.scrub r).fr,upd (s.toA.scrub r).hp r (some (.arr t'.z (xs'.map t'.cells)))⟩;rw[cO,cV]
end
section
open Go Go.RowKit
def PN (as bs:List AV):Prop:=as.length=bs.length∧∀ (i:Nat) (x y:AV),as[i]? = some x->bs[i]? = some y->Nz x y
def PN.nil:PN [] []:=⟨rfl,fun i x y h=>by simp at h⟩
def PN.cons {x y:AV} {as bs:List AV} (h:Nz x y) (hr:PN as bs):PN (x :: as) (y :: bs) :=
 ⟨by simp[hr.1],fun i a b ha hb=>by
  cases i with
  | zero=>simp at ha hb;subst ha;subst hb;exact h
  | succ i=>simp at ha hb;exact hr.2 i a b ha hb⟩
def PN.rfl (as:List AV):PN as as:=⟨by simp,fun i x y h h1=>by rw[h] at h1;cases h1;exact .inl (Eq.refl _)⟩
def PK (as bs:List AV):Prop:=as.length=bs.length∧∀ (i:Nat) (x y:AV),as[i]? = some x->bs[i]? = some y->Wk (fun _=>False) x y
def PK.nil:PK [] []:=⟨rfl,fun i x y h=>by simp at h⟩
def PK.cons {x y:AV} {as bs:List AV} (h:Wk (fun _=>False) x y) (hr:PK as bs):PK (x :: as) (y :: bs) :=
 ⟨by simp[hr.1],fun i a b ha hb=>by
  cases i with
  | zero=>simp at ha hb;subst ha;subst hb;exact h
  | succ i=>simp at ha hb;exact hr.2 i a b ha hb⟩
mutual
def encA:(sh:Sh)->sh.den->AV
 | .int,n=>aI n
 | .u8,n=>aU n
 | .bool,b=>aB b
 | .str,s=>aS s
 | .err,e=>Err.av e
 | .unit,_=>.tup []
 | .sl t,xs=>.sl t.z (List.map t.cells xs)
 | .ns _,none=>aN
 | .ns t,some xs=>.sl t.z (List.map t.cells xs)
 | .st t,x=>.agg (t.cells x)
 | .bx t,x=>.ep (t.cells x) 0
 | .own t,xs=>.own t.z (List.map t.cells xs)
 | .fnc id caps,x=>.fn id (encAL caps x)
 | .tp l,x=>.tup (encAL l x)
def encAL:(l:List Sh)->Sh.denL l->List AV
 | [],_=>[]
 | [x],v=>[encA x v]
 | x :: y :: r,v=>encA x v.1 :: encAL (y :: r) v.2
end
def zZ {x:TV} {n:Int} (h:dI x=some n):x=.i n:=by cases x<;>simp_all[dI]
def zhp {x:TV} {n:Int} (h:dU x=some n):x=.u n:=by cases x<;>simp_all[dU]
def iw {x:TV} {n:Bool} (h:dB x=some n):x=.b n:=by cases x<;>simp_all[dB]
def yx {x:TV} {n:ByteArray} (h:dS x=some n):x=.s n:=by cases x<;>simp_all[dS]
def zhq {x:TV} {n:Err} (h:dE x=some n):x=.e n:=by cases x<;>simp_all[dE]
def zJ {t t':Ty} {xs:List t.den} {ys:List t'.den} (h:zbw t' xs=some ys):∃ e:t=t',ys=e ▸ xs:=by
 unfold zbw at h;split at h
 ·rename_i e;exact ⟨e,(Option.some.inj h).symm⟩
 ·cases h
def zae {t t':Ty} {x:t.den} {y:t'.den} (h:castE t' x=some y):∃ e:t=t',y=e ▸ x:=by
 unfold castE at h;split at h
 ·rename_i e;exact ⟨e,(Option.some.inj h).symm⟩
 ·cases h
def wP {t:Ty} {x:TV} {xs:List t.den} (h:dSl t x=some xs) (hp:THp):Nz (av1 hp x) (.sl t.z (xs.map t.cells))∧(zcT x=true->av1 hp x=.sl t.z (xs.map t.cells))∧rf1 x=[]∧leaf x=true∧ze [] x=true∧ok1 x=true:=by
 cases x with
 | nl=>simp only[dSl,Option.some.injEq] at h;subst h;exact ⟨.inr ⟨rfl,_,rfl⟩,fun h=>by simp[zcT] at h,rfl,rfl,rfl,rfl⟩
 | sl t' ys=>obtain ⟨rfl,rfl⟩:=zJ h;exact ⟨.inl rfl,fun _=>rfl,rfl,rfl,rfl,rfl⟩
 | ns t' y =>
  cases y with
  | none=>obtain ⟨rfl,rfl⟩:=zJ h;exact ⟨.inr ⟨rfl,_,rfl⟩,fun h=>by simp[zcT] at h,rfl,rfl,rfl,rfl⟩
  | some ys=>obtain ⟨rfl,rfl⟩:=zJ h;exact ⟨.inl rfl,fun h=>by simp[zcT] at h,rfl,rfl,rfl,rfl⟩
 | _=>simp[dSl] at h
def zij {t:Ty} {x:TV} {y:Option (List t.den)} (h:dNs t x=some y) (hp:THp):av1 hp x=encA (.ns t) y∧rf1 x=[]∧leaf x=true∧ze [] x=true∧ok1 x=true:=by
 cases x with
 | nl=>simp only[dNs,Option.some.injEq] at h;subst h;exact ⟨rfl,rfl,rfl,rfl,rfl⟩
 | sl t' ys =>
  simp only[dNs] at h;split at h
  ·rename_i zs hz;obtain ⟨rfl,rfl⟩:=zJ hz;cases h;exact ⟨rfl,rfl,rfl,rfl,rfl⟩
  ·cases h
 | ns t' z =>simp only[dNs] at h;obtain ⟨e,rfl⟩:=zae h;cases e;cases z<;>exact ⟨rfl,rfl,rfl,rfl,rfl⟩
 | _=>simp[dNs] at h
def zbD (x:TV):Prop:=rf1 x=[]∧leaf x=true∧ze [] x=true∧ok1 x=true
structure UnOk (hp:THp) (ty:Ty) (cs:List TV) (x:ty.den):Prop where
 pn:PN (cs.map (av1 hp)) (ty.cells x)
 ex:cs.all zcT=true->cs.map (av1 hp)=ty.cells x
 flat:∀ y∈cs,zbD y
def zeR (n:Int):zbD (.i n):=⟨rfl,rfl,rfl,rfl⟩
def flatB (n:Bool):zbD (.b n):=⟨rfl,rfl,rfl,rfl⟩
def gL (n:ByteArray):zbD (.s n):=⟨rfl,rfl,rfl,rfl⟩
def yU {ty:Ty} {cs:List TV} {x:ty.den} (h:ziC ty cs=some x) (hp:THp):UnOk hp ty cs x:=by
 unfold ziC at h;split at h
 ·obtain rfl:=zZ h;exact ⟨.rfl _,fun _=>rfl,by simp[zeR]⟩
 ·obtain rfl:=iw h;exact ⟨.rfl _,fun _=>rfl,by simp[flatB]⟩
 ·obtain rfl:=yx h;exact ⟨.rfl _,fun _=>rfl,by simp[gL]⟩
 ·split at h
  ·rename_i h1 h2;obtain rfl:=zZ h1;obtain rfl:=zZ h2;cases h;exact ⟨.rfl _,fun _=>rfl,by simp[zeR]⟩
  ·cases h
 ·split at h
  ·rename_i h1 h2 h3 h4;obtain rfl:=yx h1;obtain rfl:=zZ h2;obtain rfl:=zZ h3;obtain rfl:=yx h4;cases h;exact ⟨.rfl _,fun _=>rfl,by simp[zeR,gL]⟩
  ·cases h
 ·split at h
  ·rename_i h1 h2 h3;obtain rfl:=yx h1;obtain rfl:=zZ h2;obtain ⟨k1,k2,k3⟩:=wP h3 hp;cases h;exact ⟨.cons (.inl rfl) (.cons (.inl rfl) (.cons k1 .nil)),fun he=>by simp at he;simp only[An,A3,k2 he.2.2];rfl,by simp[zeR,gL];exact k3⟩
  ·cases h
 ·obtain ⟨k1,k2,k3⟩:=wP h hp;exact ⟨.cons k1 .nil,fun he=>by simp at he;simp only[An,A3,k2 he];rfl,by simp;exact k3⟩
 ·split at h
  ·rename_i h1 h2 h3 h4 h5;obtain rfl:=zZ h1;obtain rfl:=zZ h2;obtain rfl:=yx h3;obtain rfl:=zZ h4;obtain rfl:=zZ h5;cases h;exact ⟨.rfl _,fun _=>rfl,by simp[zeR,gL]⟩
  ·cases h
 ·split at h
  ·rename_i h1 h2;obtain rfl:=zZ h2;obtain ⟨k1,k2,k3⟩:=wP h1 hp;cases h;exact ⟨.cons k1 (.cons (.inl rfl) .nil),fun he=>by simp at he;simp only[An,A3,k2 he.1];rfl,by simp[zeR];exact k3⟩
  ·cases h
 ·split at h
  ·rename_i h1 h2 h3;obtain rfl:=zZ h2;obtain rfl:=iw h3;obtain ⟨k1,k2,k3⟩:=wP h1 hp;cases h;exact ⟨.cons k1 (.cons (.inl rfl) (.cons (.inl rfl) .nil)),fun he=>by simp at he;simp only[An,A3,k2 he.1];rfl,by simp[zeR,flatB];exact k3⟩
  ·cases h
 ·split at h
  ·rename_i h1 h2 h3 h4 h5 h6;obtain rfl:=zZ h1;obtain rfl:=zZ h2;obtain rfl:=zZ h3;obtain rfl:=yx h4;obtain rfl:=zZ h5;obtain rfl:=zZ h6;cases h;exact ⟨.rfl _,fun _=>rfl,by simp[zeR,gL]⟩
  ·cases h
 ·split at h
  ·rename_i h1 h2 h3;obtain ⟨k1,k2,k3⟩:=wP h1 hp;obtain ⟨l1,l2,l3⟩:=wP h2 hp;obtain ⟨m1,m2,m3⟩:=wP h3 hp;cases h;exact ⟨.cons k1 (.cons l1 (.cons m1 .nil)),fun he=>by simp at he;simp only[An,A3,k2 he.1,l2 he.2.1,m2 he.2.2];rfl,by simp;exact ⟨k3,l3,m3⟩⟩
  ·cases h
 ·split at h
  ·rename_i h1 h2 h3;obtain rfl:=yx h1;obtain rfl:=zZ h2;obtain rfl:=zZ h3;cases h;exact ⟨.rfl _,fun _=>rfl,by simp[zeR,gL]⟩
  ·cases h
 ·split at h
  ·obtain ⟨e,rfl⟩:=zae h;cases e;exact ⟨.rfl _,fun _=>rfl,by simp[zbD,rf1,leaf,ze,ok1]⟩
  ·cases h
 ·obtain ⟨k1,k2,k3⟩:=wP h hp;exact ⟨.cons k1 .nil,fun he=>by simp at he;simp only[An,A3,k2 he];rfl,by simp;exact k3⟩
 ·obtain ⟨k1,k3⟩:=zij h hp;rename_i t a;have e:Ty.cells (.ns t) x=[encA (.ns t) x]:=by cases x<;>rfl
  exact ⟨by rw[e];simp only[An,A3,k1];exact .rfl _,fun _=>by rw[e];simp only[An,A3,k1],by simp;exact k3⟩
 ·cases h
def fCells_eq (f:List (List (Option (List Node)))):fCells f=.sl 1 (f.map (Ty.cells (.sl (.ns .node)))):=by
 have e:(fun x:Option (List Node)=>match x with | none=>[aN] | some l=>[AV.sl 5 (l.map Node.cs)])=Ty.cells (.ns .node):=by funext x;cases x<;>rfl
 unfold fCells;rw[e];rfl
def zbE (t:Ty) (x:t.den) (h:THp):(tvs t x).map (av1 h)=t.cells x∧∀ y∈tvs t x,zbD y∧ok1 y=true:=by
 cases t
 case ns t=>cases x<;>exact ⟨rfl,by simp[tvs,zbD,rf1,leaf,ze,ok1]⟩
 case solver =>
  refine ⟨?_,by simp[tvs,zbD,rf1,leaf,ze,ok1]⟩;show _=Solver.cs x;unfold Solver.cs;rw[fCells_eq];rfl
 all_goals exact ⟨rfl,by simp[tvs,zbD,rf1,leaf,ze,ok1]⟩
def tvs_len (t:Ty) (x:t.den):(tvs t x).length=(t.cells x).length:=by have:=congrArg List.length (zbE t x []).1;simpa using this
def hpA (h:THp):Nat->Option Blk:=fun r=>blk h (look r .gone h)
def zbG {h:THp} {s v:Nat} (hl:lv1 h (.lw s v)=.lw s v):∃ t xs,look s .gone h=.row v t xs:=by
 cases hq:look s .gone h with
 | row v' t xs =>
  cases hb:v.beq v' with
  | true=>rw[zB] at hb;subst hb;exact ⟨t,xs,rfl⟩
  | false=>simp[lv1,hq,hb] at hl
 | frz v' t xs=>cases hb:v.beq v'<;>simp[lv1,hq,hb] at hl
 | _=>simp[lv1,hq] at hl
def zgR {h:THp} {x:TV} (hl:lv1 h x=x):ze h x=true:=by rw[← hl];exact zcg h x
def zcy {h:THp} {x:TV} (hx:ok1 x=true) (hl:lv1 h x=x):(av1 h x).cell1=true:=by
 cases x with
 | lw s v=>obtain ⟨t,xs,hq⟩:=zbG hl;simp[av1,hq,AV.cell1]
 | ls s v off len=>have hl:=zgR hl;cases hq:look s .gone h<;>simp_all[ze,av1,AV.cell1]
 | pe s v i off=>have hl:=zgR hl;cases hq:look s .gone h<;>simp_all[ze,av1,AV.cell1]
 | pv s off=>rfl
 | e x=>cases x<;>rfl
 | ns t x=>cases x<;>rfl
 | k x =>
  simp only[ok1] at hx;split at hx
  ·rfl
  ·rfl
  ·rfl
  ·cases hx
 | bot=>simp[ok1] at hx
 | ud=>simp[ok1] at hx
 | ag=>simp[ok1] at hx
 | tp=>simp[ok1] at hx
 | fn=>simp[ok1] at hx
 | _=>rfl
def ok1_leaf {x:TV} (hx:ok1 x=true):leaf x=true:=by cases x<;>first | rfl | simp[ok1] at hx
def zem {h:THp} {x:TV} (hl:lv1 h x=x) (hf:ok1 (ql h x)=true):qn (hpA h) (av1 h x)=some (av1 h (ql h x)):=by
 cases x with
 | lw s v =>obtain ⟨t,xs,hq⟩:=zbG hl;simp[ql,hq,av1,qn,hpA,blk,BL]
 | ls s v off len=>simp[ql,ok1] at hf
 | pe s v i off=>simp[ql,ok1] at hf
 | pv s off=>simp[ql,ok1] at hf
 | e x=>cases x<;>rfl
 | ns t x=>cases x<;>rfl
 | ag=>simp[lv1] at hl
 | tp=>simp[lv1] at hl
 | fn=>simp[lv1] at hl
 | bot=>simp[ql,ok1] at hf
 | ud=>simp[ql,ok1] at hf
 | _=>rfl
def zel {h:THp} {x:TV} (hl:lv1 h x=x) (hf:ok1 (ql h x)=true):qm (hpA h) (av1 h x)=some (av1 h (ql h x)):=by
 rw[← zem hl hf];cases x with
 | pv s off=>simp[ql,ok1] at hf
 | lw s v=>cases hq:look s .gone h<;>simp[av1,hq,qm]
 | ls s v off len=>simp[ql,ok1] at hf
 | pe s v i off=>simp[ql,ok1] at hf
 | e x=>cases x<;>rfl
 | ns t x=>cases x<;>rfl
 | _=>rfl
def zcx {α β:Type} {f:α->Option β} {g:α->β}:∀ {l:List α},(∀ y∈l,f y=some (g y))->zb f l=some (l.map g)
 | [],_=>rfl
 | a :: r,h=>by simp only[zb,h a Ah,zcx fun y hy=>h y (Ad _ hy),An]
def zbh {α β γ:Type} {f:β->Option γ} {g:α->β}:∀ {l:List α},zb f (l.map g)=zb (fun x=>f (g x)) l
 | []=>rfl
 | a :: r=>by simp only[An,zb,zbh]
def zaU {α:Type} {f:α->α}:∀ {l:List α},l.map f=l->∀ y∈l,f y=y
 | a :: r,h,y,hy=>by
  simp only[An,List.cons.injEq] at h;rcases Aq.1 hy with rfl | hy
  ·exact h.1
  ·exact zaU h.2 y hy
def zfU {h:THp} {cs:List TV} (hl:lv2 h (.ag cs)=.ag cs):∀ y∈cs,lv1 h y=y:=by
 simp only[lv2] at hl;split at hl
 ·exact zaU (TV.ag.inj hl)
 ·cases hl
def lv_ag {h:THp} {cs:List TV} (hl:lv h (.ag cs)=.ag cs):∀ y∈cs,lv1 h y=y:=zfU hl
def lv_tp {h:THp} {cs:List TV} (hl:lv h (.tp cs)=.tp cs):∀ y∈cs,lv2 h y=y:=by
 simp only[lv] at hl;split at hl
 ·exact zaU (TV.tp.inj hl)
 ·cases hl
def lv_fn {h:THp} {f:Nat} {cs:List TV} (hl:lv h (.fn f cs)=.fn f cs):∀ y∈cs,lv2 h y=y:=by
 simp only[lv] at hl;split at hl
 ·exact zaU (TV.fn.inj hl).2
 ·cases hl
def jl {h:THp} {x:TV} (hx:leaf x=true) (hl:lv h x=x):lv1 h x=x:=by rwa [wa hx] at hl
def mk_ag {h:THp} {cs:List TV} (hl:∀ y∈cs,lv1 h y=y):lv2 h (.ag cs)=.ag cs:=by simp only[lv2,Af.2 fun y hy=>zgR (hl y hy)];rw[Al hl,BQ]
def zcI {h:THp} {x:TV} (hl:lv2 h x=x):lv h x=x:=by
 by_cases hx:leaf x=true
 ·rw[wa hx];rwa [ym hx] at hl
 ·cases x with
  | ag cs=>exact hl
  | tp=>simp[lv2,lv1] at hl
  | fn=>simp[lv2,lv1] at hl
  | _=>simp[leaf] at hx
def wR {h:THp} {v:TV} {cs:List TV} (hl:lv h v=v) (hc:wS v=some cs):(av h v).cells=some (cs.map (av1 h))∧∀ y∈cs,lv1 h y=y∧ok1 y=true:=by
 by_cases hx:leaf v=true
 ·have:(match ok1 v with | true=>some [v] | false=>none)=some cs:=by cases v<;>first | exact hc | simp[leaf] at hx
  split at this
  ·rename_i hb;cases this;have h1:=jl hx hl;refine ⟨?_,by simp[h1,hb]⟩;rw[zbz hx];have h2:=zcy hb h1;have:∀ a:AV,a.cell1=true->a.cells=some [a]:=fun a ha=>by cases a<;>first | (simp[AV.cell1] at ha;done) | simp only[AV.cells,ha,if_true]
   exact this _ h2
  ·cases this
 ·cases v with
  | ag ds =>
   simp only[wS] at hc;split at hc
   ·rename_i hb;cases hc;have h1:=lv_ag hl;have h2:=Af.1 hb;refine ⟨?_,fun y hy=>⟨h1 y hy,h2 y hy⟩⟩;simp only[av,av2,AV.cells];rw[if_pos];rw[all_map,Af];exact fun y hy=>zcy (h2 y hy) (h1 y hy)
   ·cases hc
  | tp=>simp[wS,ok1] at hc
  | fn=>simp[wS,ok1] at hc
  | _=>simp[leaf] at hx
def yY {h:THp} {cs:List TV} {off:Nat} {n:Option Nat} {v:TV} (hl:∀ y∈cs,lv1 h y=y) (hp:zdD cs off n=some v):zbg (cs.map (av1 h)) off n=some (av h v)∧lv h v=v:=by
 cases n with
 | none =>
  simp only[zdD] at hp;split at hp
  ·rename_i x hx;split at hp
   ·rename_i hb;cases hp;have h1:=hl _ (Ae hx);have h2:=ok1_leaf hb;refine ⟨?_,by rw[wa h2];exact h1⟩;simp only[zbg,Aw,hx,AE,zbz h2];rw[if_pos (zcy hb h1)]
   ·cases hp
  ·cases hp
 | some n =>
  simp only[zdD] at hp;split at hp
  ·rename_i hb;cases hp;have ay:off+n<=cs.length:=BX hb;refine ⟨?_, ?_⟩
   ·simp only[zbg,Ar];rw[if_pos ay];simp only[av,av2,Cc,Cd]
   ·exact zcI (mk_ag fun y hy=>hl y (Bk (BH hy)))
  ·cases hp
def j7 {h:THp} {x:TV} (hx:zbD x):lv1 h x=x:=by obtain ⟨h1,h2,h3,h4⟩:=hx;cases x<;>first | rfl | (simp[leaf] at h2;done) | (simp[rf1] at h1;done)
def zaV {h:THp} {cs:List TV} (hl:∀ y∈cs,lv1 h y=y) (hf:∀ y∈cs.map (ql h),zbD y):zb (qn (hpA h)) (cs.map (av1 h))=some ((cs.map (ql h)).map (av1 h))∧zb (qm (hpA h)) (cs.map (av1 h))=some ((cs.map (ql h)).map (av1 h)):=by rw[zbh,zbh,AU];exact ⟨zcx fun y hy=>zem (hl y hy) (hf _ (Ap.2 ⟨y,hy,rfl⟩)).2.2.2,zcx fun y hy=>zel (hl y hy) (hf _ (Ap.2 ⟨y,hy,rfl⟩)).2.2.2⟩
def zeX {h:THp} {sh:Sh} {v:TV} {x:sh.den} (hl:lv2 h v=v) (hd:dec h sh v=some x):∃ a,qm (hpA h) (av2 h v)=some a∧Wk (fun _=>False) a (encA sh x):=by
 cases sh with
 | int=>obtain rfl:=zZ hd;exact ⟨_,rfl,.rfl _⟩
 | u8=>obtain rfl:=zhp hd;exact ⟨_,rfl,.rfl _⟩
 | bool=>obtain rfl:=iw hd;exact ⟨_,rfl,.rfl _⟩
 | str=>obtain rfl:=yx hd;exact ⟨_,rfl,.rfl _⟩
 | err=>obtain rfl:=zhq hd;refine ⟨_, ?_,.rfl _⟩;cases x<;>rfl
 | unit =>
  simp only[dec] at hd;split at hd
  ·simp[lv2,lv1] at hl
  ·cases hd
 | sl t =>
  simp only[dec] at hd;obtain ⟨k1,k2,k3,k4,k5,k6⟩:=wP hd h;have hv:leaf v=true:=by cases v<;>first | rfl | simp[ql,dSl] at hd
  rw[ym hv] at hl;rw[wm hv];exact ⟨_,zel hl k6,k1.wk⟩
 | ns t =>
  simp only[dec] at hd;obtain ⟨k1,k3,k4,k5,k6⟩:=zij hd h;have hv:leaf v=true:=by cases v<;>first | rfl | simp[ql,dNs] at hd
  rw[ym hv] at hl;rw[wm hv];exact ⟨_,zel hl k6,by rw[k1];exact .rfl _⟩
 | st t =>
  simp only[dec] at hd;split at hd
  ·rename_i cs;have hu:=yU hd h;have:=(zaV (zfU hl) hu.flat).2;simp only[av2,qm];have h1:zb (qn (hpA h)) (cs.map (av1 h))=_:=(zaV (zfU hl) hu.flat).1;rw[h1];exact ⟨_,rfl,.agg hu.pn.1 fun i x y hx hy=>(hu.pn.2 i x y hx hy).wk⟩
  ·cases hd
 | bx t =>
  simp only[dec] at hd;split at hd
  ·obtain ⟨rfl,rfl⟩:=zae hd;exact ⟨_,rfl,.rfl _⟩
  ·rename_i s;split at hd
   ·rename_i cs hq;have hu:=yU hd h;have h1:=(zaV (h:=h) (cs:=cs.map (lv1 h)) (fun y hy=>by
     obtain ⟨z,hz,rfl⟩:=Ap.1 hy;exact yn h z) (by rw[AU];exact hu.flat)).1
    refine ⟨.ep ((cs.map (lv1 h)).map (ql h) |>.map (av1 h)) 0, ?_, ?_⟩
    ·have e:hpA h s=some (.var ((cs.map (lv1 h)).map (av1 h))):=(by simp only[hpA,hq,blk,AU];rfl);show qm (hpA h) (.pv s 0)=_;simp only[qm,e,h1]
    ·have gl:=hu.pn;rw[show (cs.map fun x=>ql h (lv1 h x))=(cs.map (lv1 h)).map (ql h) by rw[AU];rfl] at gl;exact .ep 0 gl.1 gl.2
   ·cases hd
  ·cases hd
 | own t=>simp[dec] at hd
 | fnc id caps =>
  simp only[dec] at hd;split at hd
  ·simp[lv2,lv1] at hl
  ·cases hd
 | tp l =>
  simp only[dec] at hd;split at hd
  ·simp[lv2,lv1] at hl
  ·cases hd
def zeV {h:THp}:∀ {l:List Sh} {vs:List TV} {x:Sh.denL l},(∀ v∈vs,lv2 h v=v)->wy h l vs=some x->∃ as,zb (qm (hpA h)) (vs.map (av2 h))=some as∧PK as (encAL l x)
 | [],[],x,_,_=>⟨[],rfl,.nil⟩
 | [],_ :: _,x,_,hd=>by simp[wy] at hd
 | [sh],[],x,_,hd=>by simp[wy] at hd
 | [sh],[v],x,hl,hd=>by
  simp only[wy] at hd;obtain ⟨a,h1,h2⟩:=zeX (hl v (by simp)) hd;exact ⟨[a],by simp[zb,h1],.cons h2 .nil⟩
 | [sh],_ :: _ :: _,x,_,hd=>by simp[wy] at hd
 | sh :: bt :: r,[],x,_,hd=>by simp[wy] at hd
 | sh :: bt :: r,v :: vs,x,hl,hd=>by
  simp only[wy] at hd;split at hd
  ·rename_i a b ha hb;cases hd;obtain ⟨a1,h1,h2⟩:=zeX (hl v (by simp)) ha;obtain ⟨as,h3,h4⟩:=zeV (fun v hv=>hl v (Ad _ hv)) hb;exact ⟨a1 :: as,by simp[zb,h1,h3],.cons h2 h4⟩
  ·cases hd
def zgf {h:THp} {sh:Sh} {v:TV} {x:sh.den} (hl:lv h v=v) (hd:dec h sh v=some x):∃ a,wx (hpA h) (av h v)=some a∧Wk (fun _=>False) a (encA sh x):=by
 by_cases h2:lv2 h v=v
 ·obtain ⟨a,k1,k2⟩:=zeX h2 hd;have e:av h v=av2 h v:=by cases v<;>first | rfl | simp[lv2,lv1] at h2
  rw[e];by_cases hx:leaf v=true
  ·refine ⟨a, ?_,k2⟩;rw[wm hx] at k1 ⊢;rw[← k1];cases v with
   | lw s v=>cases hq:look s .gone h<;>simp[av1,hq,wx]
   | ls s v off len=>cases hq:look s .gone h<;>simp[av1,hq,wx]
   | pe s v i off=>cases hq:look s .gone h<;>simp[av1,hq,wx]
   | e x=>cases x<;>rfl
   | ns t x=>cases x<;>rfl
   | ag=>simp[leaf] at hx
   | tp=>simp[leaf] at hx
   | fn=>simp[leaf] at hx
   | _=>rfl
  ·cases v with
   | ag cs =>
    cases sh with
    | st t =>simp only[dec] at hd;have hu:=yU hd h;simp only[av2,wx];have h1:zb (qm (hpA h)) (cs.map (av1 h))=_:=(zaV (zfU h2) hu.flat).2;rw[h1];exact ⟨_,rfl,.agg hu.pn.1 fun i x y hx hy=>(hu.pn.2 i x y hx hy).wk⟩
    | _=>simp[dec,dI,dU,dB,dS,dE,ql,dSl,dNs] at hd
   | tp=>simp[lv2,lv1] at h2
   | fn=>simp[lv2,lv1] at h2
   | _=>simp[leaf] at hx
 ·cases v with
  | tp vs =>
   cases sh with
   | tp l =>simp only[dec] at hd;obtain ⟨as,h1,h3⟩:=zeV (lv_tp hl) hd;simp only[av,wx,h1];exact ⟨_,rfl,.tup h3.1 h3.2⟩
   | unit =>
    simp only[dec] at hd;split at hd
    ·rename_i he;cases he;exact ⟨_,rfl,.rfl _⟩
    ·cases hd
   | _=>simp[dec,dI,dU,dB,dS,dE,ql,dSl,dNs] at hd
  | fn f vs =>
   cases sh with
   | fnc id caps =>
    simp only[dec] at hd;split at hd
    ·rename_i hb;rw[zB] at hb;subst hb;obtain ⟨as,h1,h3⟩:=zeV (lv_fn hl) hd;simp only[av,wx,h1];exact ⟨_,rfl,.fn h3.1 h3.2⟩
    ·cases hd
   | _=>simp[dec,dI,dU,dB,dS,dE,ql,dSl,dNs] at hd
  | ag cs=>exact absurd hl h2
  | _=>exact absurd hl h2
def zho {h:THp}:∀ {l:List Sh} {vs:List TV} {x:Sh.denL l},(∀ v∈vs,lv h v=v)->wy h l vs=some x->∃ as,zb (wx (hpA h)) (vs.map (av h))=some as∧PK as (encAL l x)
 | [],[],x,_,_=>⟨[],rfl,.nil⟩
 | [],_ :: _,x,_,hd=>by simp[wy] at hd
 | [sh],[],x,_,hd=>by simp[wy] at hd
 | [sh],[v],x,hl,hd=>by
  simp only[wy] at hd;obtain ⟨a,h1,h2⟩:=zgf (hl v (by simp)) hd;exact ⟨[a],by simp[zb,h1],.cons h2 .nil⟩
 | [sh],_ :: _ :: _,x,_,hd=>by simp[wy] at hd
 | sh :: bt :: r,[],x,_,hd=>by simp[wy] at hd
 | sh :: bt :: r,v :: vs,x,hl,hd=>by
  simp only[wy] at hd;split at hd
  ·rename_i a b ha hb;cases hd;obtain ⟨a1,h1,h2⟩:=zgf (hl v (by simp)) ha;obtain ⟨as,h3,h4⟩:=zho (fun v hv=>hl v (Ad _ hv)) hb;exact ⟨a1 :: as,by simp[zb,h1,h3],.cons h2 h4⟩
  ·cases hd
end
section
open Go Go.RowKit
section
variable {S:Seat} {q:Bool} {A0:Nat->Prop} {O:Hnd} {w0:World} {A:Nat->Prop} {σ:Nat->Option Nat} {w:World} {tm:Array Value}
inductive FzR (s z:Nat) (es:List (List AV)):AV->AV->Prop
 | leaf (x:AV):FzR s z es x (Ab.frz s z es x)
 | agg {cs ds:List AV}:cs.length=ds.length->(∀ (i:Nat) (x y:AV),cs[i]? = some x->ds[i]? = some y->FzR s z es x y)->FzR s z es (.agg cs) (.agg ds)
 | tup {cs ds:List AV}:cs.length=ds.length->(∀ (i:Nat) (x y:AV),cs[i]? = some x->ds[i]? = some y->FzR s z es x y)->FzR s z es (.tup cs) (.tup ds)
 | fn {f:Nat} {cs ds:List AV}:cs.length=ds.length->(∀ (i:Nat) (x y:AV),cs[i]? = some x->ds[i]? = some y->FzR s z es x y)->FzR s z es (.fn f cs) (.fn f ds)
 | bot (x:AV):FzR s z es x .bot
def VR.fz {st:ASt} (h:SRel S A0 O w0 A σ w st tm) {s z0:Nat} {es:List (List AV)} (hb:st.hp s=some (.arr z0 es)) {x y:AV} (hf:FzR s z0 es x y):∀ {v:Value},VR S A σ w x v ->
  VR S (fun b=>A b∨σ s=some b) (fun k=>if k=s then none else σ k) w y v:=by
 induction hf with
 | leaf x=>intro v hv;exact hv.frz h hb
 | agg hl hp ih =>intro v hv;obtain ⟨vs,rfl,h1,h2⟩:=hv.agg_inv;refine .agg (by omega) fun i y hy => ?_;obtain ⟨x,hx⟩:=zu hl hy;exact ih i x y hx hy (h2 i x hx)
 | tup hl hp ih =>intro v hv;obtain ⟨vs,rfl,h1,h2⟩:=hv.tup_inv;refine .tup (by omega) fun i y hy => ?_;obtain ⟨x,hx⟩:=zu hl hy;exact ih i x y hx hy (h2 i x hx)
 | fn hl hp ih =>intro v hv;obtain ⟨g,vs,rfl,h0,h1,h2⟩:=hv.fn_inv;refine .fn h0 (by omega) fun i y hy => ?_;obtain ⟨x,hx⟩:=zu hl hy;exact ih i x y hx hy (h2 i x hx)
 | bot x=>intro v _;exact .of0 (.bot v)
def cv_frz {st:ASt} {s1:TSt} {s z0:Nat} {es:List (List AV)} (dJ:zav s=false) (bq:∀ s',zav s'=true->st.hp s'≠none->s1.toA.hp s'≠none) (hb:st.hp s=some (.arr z0 es)) (hf:∀ k,FzR s z0 es (st.fr k) (s1.toA.fr k)) (hs:s1.toA.hp s=none)
  (hh:∀ s',s'≠s->s1.toA.hp s'=none∨(∃ z es,st.hp s'=some (.arr z es)∧s1.toA.hp s'=some (.arr z es))∨(∃ cs ds,st.hp s'=some (.var cs)∧s1.toA.hp s'=some (.var ds)∧cs.length=ds.length∧∀ (i:Nat) (x y:AV),cs[i]? = some x->ds[i]? = some y->FzR s z0 es x y)) :
  (za S).cv st s1.toA:=by
 intro A0 O w0 A σ w tm h
 let σ1:Nat->Option Nat:=fun k=>match s1.toA.hp k with | none=>none | some _=>(if k=s then none else σ k)
 have hσ:∀ r,s1.toA.hp r≠none->σ1 r=if r=s then none else σ r:=fun r hr=>by
  cases hq:s1.toA.hp r with
  | none=>exact absurd hq hr
  | some b=>simp[σ1,hq]
 refine ⟨fun b=>A b∨σ s=some b,σ1,fun k => ?_,fun s' blk fc => ?_,zek s1,zcl s1,fun r b hr => ?_,fun r r' b h1 h2 => ?_,fun b ay => ?_,fun b ay => ?_,h.keep,h.kp.of fun s' hf hn => ?_,h.Olt⟩
 ·refine (VR.fz h hb (hf k) (h.fr k)).mono (fun _ h=>h) (fun _ _=>rfl) fun r hr => ?_;exact ⟨(hσ r (zek s1 k r hr)),fun b cs el _ hb=>⟨cs,hb,rfl⟩⟩
 ·have ah:s'≠s:=fun e=>by subst e;rw[hs] at fc;cases fc
  have aK:σ1 s'=σ s':=by rw[hσ s' (by rw[fc];simp),if_neg ah]
  rcases hh s' ah with k | ⟨z,aX,k1,k2⟩ | ⟨cs,ds,k1,k2,k3,k4⟩
  ·rw[k] at fc;cases fc
  ·rw[fc] at k2;cases k2;exact (h.hp s' _ k1).mono (fun _ h=>.inl h) (fun _ _=>rfl) aK (fun _ _=>rfl) (by simp[Blk.refs])
  ·rw[fc] at k2;cases k2;obtain ⟨b,vs,el,m1,m2,m3,m4⟩:=h.hp s' _ k1;refine ⟨b,vs,el,aK.trans m1,m2,by omega,fun i y hy => ?_⟩;obtain ⟨x,hx⟩:=zu k3 hy;refine (VR.fz h hb (k4 i x y hx hy) (m4 i x hx)).mono (fun _ h=>h) (fun _ _=>rfl) fun r hr => ?_;exact ⟨hσ r (zcl s1 s' ds fc r (zd.2 ⟨y,Ae hy,hr⟩)),fun b cs el _ hb=>⟨cs,hb,rfl⟩⟩
 ·have fq:s1.toA.hp r≠none∧r≠s∧σ r=some b:=by
   cases hq:s1.toA.hp r with
   | none=>simp[σ1,hq] at hr
   | some b' =>
    simp only[σ1,hq] at hr;split at hr
    ·cases hr
    ·rename_i ah;exact ⟨by simp,ah,hr⟩
  obtain ⟨k1,k2,k3,k4⟩:=h.dom r b fq.2.2;exact ⟨fq.1,k2,fun hh=>hh.elim k3 fun e=>fq.2.1 (h.inj r s b fq.2.2 e),k4⟩
 ·have fq:∀ r,σ1 r=some b->σ r=some b:=fun r hr=>by
   cases hq:s1.toA.hp r with
   | none=>simp[σ1,hq] at hr
   | some b' =>
    simp only[σ1,hq] at hr;split at hr
    ·cases hr
    ·exact hr
  exact h.inj r r' b (fq r h1) (fq r' h2)
 ·rcases ay with ay | ay
  ·exact h.Alt b ay
  ·exact (h.dom s b ay).2.1
 ·rcases ay with ay | ay
  ·exact h.Asub b ay
  ·exact .inr (h.dom s b ay).2.2.2
 ·have ah:s'≠s:=fun e=>by rw[e,dJ] at hf;cases hf
  refine ⟨⟨by rw[hσ s' (bq s' hf hn),if_neg ah],fun b cs el _ hb=>⟨cs,hb,rfl⟩⟩,fun z aX he => ?_,fun bo he => ?_⟩
  ·rcases hh s' ah with k | ⟨z1,dz,k1,k2⟩ | ⟨cs,ds,k1,_⟩
   ·exact absurd k (bq s' hf hn)
   ·rw[he] at k1;cases k1;exact ⟨aX,k2,rfl⟩
   ·rw[he] at k1;cases k1
  ·rcases hh s' ah with k | ⟨z1,dz,k1,k2⟩ | ⟨cs,ds,k1,k2,_⟩
   ·exact absurd k (bq s' hf hn)
   ·rw[he] at k1;cases k1
   ·exact ⟨_,k2⟩
section
variable {h:THp} {r v:Nat} {t:Ty} {xs:List t.den}
def frz_id {s z:Nat} {es:List (List AV)} {x:AV} (h:s ∉ x.refs):Ab.frz s z es x=x:=by
 have hc:x.refs.contains s=false:=by simpa[AP] using h
 unfold Ab.frz;split
 ·rename_i s' z' off len;rw[if_neg];intro e;subst e;exact h (by simp[AV.refs])
 ·rename_i s' z' i off;rw[if_neg];intro e;subst e;exact h (by simp[AV.refs])
 ·rw[hc];rfl
def fz1 (h0:look r .gone h=.row v t xs) (y:TV):FzR r t.z (xs.map t.cells) (A1 h y) (A1 ((r,.frz v t xs) :: h) y)∧(ze ((r,.frz v t xs) :: h) y=true->ze h y=true):=by
 have other:∀ k,r≠k->look k .gone ((r,TB.frz v t xs) :: h)=look k .gone h:=fun k hk=>by rw[zf,if_neg hk]
 have here:look r .gone ((r,TB.frz v t xs) :: h)=.frz v t xs:=by rw[zf,if_pos rfl]
 have same:A1 ((r,.frz v t xs) :: h) y=A1 h y->FzR r t.z (xs.map t.cells) (A1 h y) (A1 ((r,.frz v t xs) :: h) y):=by
  intro e;have hr:r ∉ (A1 ((r,.frz v t xs) :: h) y).refs:=fun hm=>zdz hm (by rw[here];rfl);rw[← e];have:=FzR.leaf (s:=r) (z:=t.z) (es:=xs.map t.cells) (A1 ((r,.frz v t xs) :: h) y)
  rwa [frz_id hr] at this
 cases y with
 | lw k w =>
  by_cases hk:r=k
  ·subst hk;refine ⟨?_,by simp only[ze,here,h0];exact id⟩;simp only[A1,lv1,here,h0];cases hb:w.beq v with
   | false=>exact .bot _
   | true =>have:=FzR.leaf (s:=r) (z:=t.z) (es:=xs.map t.cells) (.lsl r t.z 0 xs.length);simp only[av1,h0];simpa[Ab.frz,BL] using this
  ·refine ⟨same ?_,by simp only[ze,other k hk];exact id⟩;simp only[A1,lv1,other k hk]
   repeat' split
   all_goals simp only[av1,other k hk]
 | ls k w off len =>
  by_cases hk:r=k
  ·subst hk;exact ⟨by rw[zaI (h:=(r,TB.frz v t xs) :: h) (by simp only[ze,here])];exact .bot _,by simp only[ze,here];intro h;cases h⟩
  ·refine ⟨same ?_,by simp only[ze,other k hk];exact id⟩;simp only[A1,lv1,other k hk]
   repeat' split
   all_goals simp only[av1,other k hk]
 | pe k w i off =>
  by_cases hk:r=k
  ·subst hk;exact ⟨by rw[zaI (h:=(r,TB.frz v t xs) :: h) (by simp only[ze,here])];exact .bot _,by simp only[ze,here];intro h;cases h⟩
  ·refine ⟨same ?_,by simp only[ze,other k hk];exact id⟩;simp only[A1,lv1,other k hk]
   repeat' split
   all_goals simp only[av1,other k hk]
 | pv k off =>
  by_cases hk:r=k
  ·subst hk;exact ⟨by rw[zaI (h:=(r,TB.frz v t xs) :: h) (by simp only[ze,here])];exact .bot _,by simp only[ze,here];intro h;cases h⟩
  ·refine ⟨same ?_,by simp only[ze,other k hk];exact id⟩;simp only[A1,lv1,other k hk]
   repeat' split
   all_goals simp only[av1]
 | ns t' x=>exact ⟨same (by cases x<;>rfl),id⟩
 | _=>exact ⟨same rfl,id⟩
def zeP {α:Type} {P:AV->AV->Prop} {f g:α->AV} {l:List α} (hp:∀ y∈l,P (f y) (g y)) (i:Nat) (x y:AV) (hx:(l.map f)[i]? = some x) (hy:(l.map g)[i]? = some y):P x y:=by simp only[Aw,Ag] at hx hy;obtain ⟨a,ha,rfl⟩:=hx;obtain ⟨b,hb,rfl⟩:=hy;rw[ha] at hb;cases hb;exact hp a (Ae ha)
def fz2 (h0:look r .gone h=.row v t xs) (x:TV):FzR r t.z (xs.map t.cells) (A2 h x) (A2 ((r,.frz v t xs) :: h) x)∧(zy ((r,.frz v t xs) :: h) x=true->zy h x=true):=by
 by_cases hx:leaf x=true
 ·rw[jB hx,jB hx,qL hx,qL hx];exact fz1 h0 x
 ·cases x with
  | ag cs =>
   refine ⟨?_,fun hl=>Af.2 fun y hy=>(fz1 h0 y).2 (Af.1 hl y hy)⟩;rw[yc,yc];by_cases hl:cs.all (ze ((r,.frz v t xs) :: h))=true
   ·rw[if_pos hl,if_pos (Af.2 fun y hy=>(fz1 h0 y).2 (Af.1 hl y hy))];exact .agg (by simp) (zeP fun y _=>(fz1 h0 y).1)
   ·rw[if_neg hl];exact .bot _
  | tp=>exact ⟨.bot _,id⟩
  | fn=>exact ⟨.bot _,id⟩
  | _=>simp[leaf] at hx
def fz3 (h0:look r .gone h=.row v t xs) (x:TV):FzR r t.z (xs.map t.cells) (Av h x) (Av ((r,.frz v t xs) :: h) x):=by
 by_cases hx:leaf x=true
 ·rw[qC hx,qC hx];exact (fz1 h0 x).1
 ·cases x with
  | ag cs=>rw[dX,dX,← yc,← yc];exact (fz2 h0 _).1
  | tp cs =>
   rw[dC,dC];by_cases hl:cs.all (zy ((r,.frz v t xs) :: h))=true
   ·rw[if_pos hl,if_pos (Af.2 fun y hy=>(fz2 h0 y).2 (Af.1 hl y hy))];exact .tup (by simp) (zeP fun y _=>(fz2 h0 y).1)
   ·rw[if_neg hl];exact .bot _
  | fn f cs =>
   rw[zaH,zaH];by_cases hl:cs.all (zy ((r,.frz v t xs) :: h))=true
   ·rw[if_pos hl,if_pos (Af.2 fun y hy=>(fz2 h0 y).2 (Af.1 hl y hy))];exact .fn (by simp) (zeP fun y _=>(fz2 h0 y).1)
   ·rw[if_neg hl];exact .bot _
  | _=>simp[leaf] at hx
end
def zhr {s:TSt} {r v:Nat} {t:Ty} {xs:List t.den} (dJ:zav r=false) (h0:look r .gone s.hp=.row v t xs):(za S).cv s.toA (s.push [(r,.frz v t xs)]).toA:=by
 refine cv_frz (s:=r) (z0:=t.z) (es:=xs.map t.cells) dJ (fun s' hf hn => ?_) (by simp only[zN,h0,blk]) (fun k=>fz3 h0 _) (by simp only[zN,TSt.push,As,AA,zf,if_true,blk]) fun s' ah => ?_
 ·have ah:s'≠r:=fun e=>by rw[e,dJ] at hf;cases hf
  simp only[zN,TSt.push,As,AA,zf,if_neg (Ne.symm ah)] at hn ⊢;cases hb:look s' .gone s.hp with
  | var cs=>simp[blk]
  | row v' t' xs'=>simp[blk]
  | gone=>rw[hb] at hn;exact absurd rfl hn
  | frz v' t' xs'=>rw[hb] at hn;exact absurd rfl hn
 simp only[zN,TSt.push,As,AA,zf,if_neg (Ne.symm ah)];cases hb:look s' .gone s.hp with
 | var cs=>exact .inr (.inr ⟨_,_,rfl,rfl,by simp,zeP fun y _=>(fz1 h0 y).1⟩)
 | row v' t' xs'=>exact .inr (.inl ⟨_,_,rfl,rfl⟩)
 | _=>exact .inl rfl
def qx (s:TSt) (a b:THp):((s.push a).push b).toA=(s.push (b++a)).toA:=by simp only[TSt.push,TSt.toA,AB]
def zay:∀ (l:List Nat) (s:TSt) (hs:THp),frzs s.hp l=some hs->(za S).cv s.toA (s.push hs).toA
 | [],s,hs,h=>by
  simp only[frzs,Option.some.injEq] at h;subst h;exact cv_refl _
 | r :: l,s,hs,h=>by
  simp only[frzs] at h;split at h
  ·rename_i v t xs hl;split at h
   ·rename_i ae dJ aP;cases h;refine zeY (zhr dJ hl) ?_;have:=zay l (s.push [(r,.frz v t xs)]) ae aP
    rwa [qx] at this
   ·cases h
  ·exact zay l s hs h
  ·exact zay l s hs h
  ·cases h
end
end
section
open Go Go.RowKit
section
variable {S:Seat} {q:Bool} {α:Type} {C:List CSpec} {ty:Ty} {d:Nat} {s:TSt} {k:TV->THp->Option α} {r:α}
def Cv (S:Seat) (q:Bool) (a b:ASt):Prop:=a=b∨(q=false∧(za S).cv a b)
def zV (S:Seat) (q:Bool) (o:AOp) (d:Nat) (s:TSt) (v:TV) (hs:THp):Prop :=
 ∃ h0 a st1,Cv S q s.toA (s.push h0).toA∧qR (za S) q o d (s.push h0).toA a st1∧∀ dst:Option Nat,Cv S q (st1.putO dst a) ((s.push hs).putO dst v).toA
def wA {M:Rets} {o:AOp} {st st1:ASt} {a:AV} (hn:wt o=false) (h:aop o d st=some (a,st1)):qR M q o d st a st1:=by cases o<;>first | exact h | simp[wt] at hn
def zV.val {o:AOp} {v:TV} (hn:wt o=false) (h:aop o d s.toA=some (Av s.hp v,s.toA)):zV S q o d s v [] :=
 ⟨[],_,_,.inl rfl,wA hn h,fun dst=>.inl (by rw[qj];rfl)⟩
def wk_putO {st:ASt} {s1:TSt} {a:AV} {v:TV} (h:∀ k,Wk (fun _=>False) (st.fr k) (s1.toA.fr k)) (hw:Wk (fun _=>False) a (Av s1.hp v)) (dst:Option Nat) (k:Nat):Wk (fun _=>False) ((st.putO dst a).fr k) ((s1.putO dst v).toA.fr k):=by
 rw[qj];cases dst with
 | none=>exact h k
 | some d =>
  simp only[ASt.putO,ASt.put,upd];split
  ·exact hw
  ·exact h k
def zch (st:ASt) (dst:Option Nat) (a:AV):(st.putO dst a).hp=st.hp:=by cases dst<;>rfl
def zV.wk {o:AOp} {v:TV} {a:AV} (hq:q=false) (hn:wt o=false) (h:aop o d s.toA=some (a,s.toA)) (hw:Wk (fun _=>False) a (Av s.hp v)):zV S q o d s v [] :=
 ⟨[],_,_,.inl rfl,wA hn h,fun dst=>.inr ⟨hq,lC (SWk.mk' (N:=fun _=>False) (fun k=>wk_putO (s1:=s.push []) (fun k=>.rfl _) hw dst k) (fun r=>by
  rw[qj,zch,zch];cases hb:s.toA.hp r with
  | none=>exact .inl ⟨by rw[yC];exact hb,fun _=>rfl⟩
  | some b=>exact .inr (.inl ⟨b,b,rfl,by rw[yC];exact hb,.rfl b⟩)) fun r hr=>hr.elim)⟩⟩
def zV.heap {o:AOp} {v:TV} {a:AV} {d':Nat} {b:TB} (hn:wt o=false) (hc:Chg s.hp d' b) (hf:look d' .gone s.hp=.gone->jy d' b s=true)
  (h:aop o d s.toA=some (a,s.toA.setH d' (blk ((d',b) :: s.hp) b))) (ha:Av ((d',b) :: s.hp) v=a):zV S q o d s v [(d',b)] :=
 ⟨[],_,_,.inl rfl,wA hn h,fun dst=>.inl (by rw[qj,jj hc hf,← ha];rfl)⟩
def zV.row {o:AOp} {v:TV} {a:AV} {d' n:Nat} {t:Ty} {xs:List t.den} {es:List (List AV)} (hn:wt o=false) (hc:Chg s.hp d' (.row n t xs)) (hf:look d' .gone s.hp=.gone->jy d' (.row n t xs) s=true)
  (h:aop o d s.toA=some (a,s.toA.setH d' (some (.arr t.z es)))) (ha:Av ((d',.row n t xs) :: s.hp) v=a) (he:es=xs.map t.cells∨(q=false∧EWk es (xs.map t.cells))):zV S q o d s v [(d',.row n t xs)]:=by
 rcases he with rfl | ⟨hq,he⟩
 ·exact .heap hn hc hf h ha
 ·refine ⟨[],_,_,.inl rfl,wA hn h,fun dst=>.inr ⟨hq, ?_⟩⟩;have e:=jj hc hf;refine lC (SWk.mk' (N:=fun _=>False) (fun k=>wk_putO (fun k => ?_) (by rw[← ha];exact .rfl _) dst k) (fun r => ?_) fun r hr=>hr.elim)
  ·rw[e];exact .rfl _
  ·rw[qj,zch,zch,e];simp only[ASt.setH,upd];split
   ·exact .inr (.inl ⟨_,_,rfl,rfl,.arr he⟩)
   ·cases hb:s.toA.hp r with
    | none=>exact .inl ⟨rfl,fun _=>rfl⟩
    | some b=>exact .inr (.inl ⟨b,b,rfl,rfl,.rfl b⟩)
def qg {b:Bool} {x:Option α} (h:ck b x=some r):b=true∧x=some r:=by
 cases b with
 | true=>exact ⟨rfl,h⟩
 | false=>cases h
def jo {β:Type} {x:Option β} {f:β->Option α} (h:bno x f=some r):∃ y,x=some y∧f y=some r:=by
 cases x with
 | none=>cases h
 | some y=>exact ⟨y,rfl,h⟩
def zbl {β:Type} {xs:List β} {n:Int} {y:β} (h:qb xs n=some y):0<=n∧xs[n.toNat]? = some y:=by
 unfold qb at h;split at h
 ·rename_i hn;exact ⟨hn,h⟩
 ·cases h
def ye {x:AOpd} {v:TV} (h:s.ev x=v):s.toA.ev x=av s.hp v∧lv s.hp v=v:=⟨by rw[zE,h],by rw[← h];exact wl s x⟩
def jA {h:THp} {v:TV} (hl:lv h v=v):Av h v=av h v:=by rw[Av,hl]
def sl_var {h:THp} {s off:Nat} (hl:lv1 h (.pv s off)=.pv s off):∃ cs,look s .gone h=.var cs:=by
 cases hq:look s .gone h with
 | var cs=>exact ⟨cs,rfl⟩
 | _=>simp[lv1,hq] at hl
def ziI {h:THp} {s v i off:Nat} (hl:lv1 h (.pe s v i off)=.pe s v i off):∃ t xs,look s .gone h=.row v t xs:=by
 cases hq:look s .gone h with
 | row v' t xs =>
  cases hb:v.beq v' with
  | true=>rw[zB] at hb;subst hb;exact ⟨t,xs,rfl⟩
  | false=>simp[lv1,hq,hb] at hl
 | _=>simp[lv1,hq] at hl
def sl_ls {h:THp} {s v off len:Nat} (hl:lv1 h (.ls s v off len)=.ls s v off len):∃ t xs,look s .gone h=.row v t xs:=by
 cases hq:look s .gone h with
 | row v' t xs =>
  cases hb:v.beq v' with
  | true=>rw[zB] at hb;subst hb;exact ⟨t,xs,rfl⟩
  | false=>simp[lv1,hq,hb] at hl
 | _=>simp[lv1,hq] at hl
def av_pv (h:THp) (s off:Nat):av h (.pv s off)=.pv s off:=rfl
def av_ep (h:THp) (t:Ty) (x:t.den) (off:Nat):av h (.ep t x off)=.ep (t.cells x) off:=rfl
def av_sl (h:THp) (t:Ty) (xs:List t.den):av h (.sl t xs)=.sl t.z (xs.map t.cells):=rfl
def av_i (h:THp) (n:Int):av h (.i n)=.v (.int .i64 n):=rfl
def av_u (h:THp) (n:Int):av h (.u n)=.v (.int .u8 n):=rfl
def av_b (h:THp) (n:Bool):av h (.b n)=.v (.bool n):=rfl
def av_s (h:THp) (n:ByteArray):av h (.s n)=.v (.string n):=rfl
def av_nl (h:THp):av h .nl=.v (.slice none 0 0):=rfl
def zhD {h:THp} {s v v' i off:Nat} {t:Ty} {xs:List t.den} (hl:look s .gone h=.row v' t xs):av h (.pe s v i off)=.pe s t.z i off:=by simp only[av,av2,av1,hl]
def dY {h:THp} {s v v':Nat} {t:Ty} {xs:List t.den} (hl:look s .gone h=.row v' t xs):av h (.lw s v)=.lsl s t.z 0 xs.length:=by simp only[av,av2,av1,hl]
def av_ls {h:THp} {s v v' off len:Nat} {t:Ty} {xs:List t.den} (hl:look s .gone h=.row v' t xs):av h (.ls s v off len)=.lsl s t.z off len:=by simp only[av,av2,av1,hl]
def top_mov {x:AOpd} (h:top C q ty (.mov x) d s k=some r):∃ v hs,k v hs=some r∧zV S q (.mov x) d s v hs :=
 ⟨_,_,h,.val rfl (by simp only[aop,ev_Av])⟩
def zeQ (h:freeV d s=true):look d .gone s.hp=.gone∧jy d (.var []) s=true:=by simp only[freeV,Ak] at h;refine ⟨?_,h.2⟩;have:=h.1;cases hb:look d .gone s.hp<;>simp_all[gN]
def wg {n:Nat} (h:dF d n s=true):look d .gone s.hp=.gone∧jy d (.row n .int []) s=true:=by simp only[dF,Ak] at h;refine ⟨?_,h.2⟩;have:=h.1;cases hb:look d .gone s.hp<;>simp_all[gN]
def cl1_var (d:Nat) (cs an:List TV) (x:TV):cl1 d (.var cs) x=cl1 d (.var an) x:=by cases x<;>rfl
def zaA (d n:Nat) (t t':Ty) (xs:List t.den) (xs':List t'.den) (x:TV):cl1 d (.row n t xs) x=cl1 d (.row n t' xs') x:=by cases x<;>rfl
def qu {d:Nat} {b b':TB} (h:∀ x,cl1 d b x=cl1 d b' x) (s:TSt):jy d b s=jy d b' s:=by
 have e1:cl1 d b=cl1 d b':=funext h;have e2:cl2 d b=cl2 d b':=by funext x;unfold cl2;rw[e1]
 have e3:cl d b=cl d b':=by funext x;unfold cl;rw[e2]
 unfold jy;rw[e3,e1]
def A1_new {d:Nat} {cs:List TV} {y:TV} (h0:look d .gone s.hp=.gone) (hy:lv1 s.hp y=y):A1 ((d,.var cs) :: s.hp) y=av1 s.hp y:=by
 have hle:LE s.hp ((d,.var cs) :: s.hp) y:=push1 (.newV h0) fun _=>by
  cases y with
  | pv r off =>
   by_cases hr:r=d
   ·subst hr;simp[lv1,h0] at hy
   ·simp only[cl1];cases hb:r.beq d with
    | true=>exact absurd (zB.1 hb) hr
    | false=>rfl
  | _=>rfl
 rw[hle.av,A1,hy]
def top_box {x:AOpd} (h:top C q ty (.box x) d s k=some r):∃ v hs,k v hs=some r∧zV S q (.box x) d s v hs:=by
 simp only[top] at h;split at h
 ·rename_i cs hc hf;obtain ⟨h0,h1⟩:=zeQ hf;obtain ⟨c1,c2⟩:=wR (wl s x) hc;refine ⟨_,_,h,.heap (a:=.pv d 0) rfl (.newV h0) (fun _=>by rw[qu (cl1_var d cs [])];exact h1) ?_ ?_⟩
  ·simp only[aop,zE,c1,zN,h0,blk];rw[show (cs.map fun x=>av1 ((d,.var cs) :: s.hp) (lv1 ((d,.var cs) :: s.hp) x))=cs.map (av1 s.hp) from Al fun y hy=>A1_new h0 (c2 y hy).1]
  ·simp only[Av,lv,lv2,lv1,zf,if_true,av,av2,av1]
 ·cases h
def cst_sl (h:THp) (x:Value):lv1 h (cst x)=cst x:=by unfold cst;split<;>rfl
def zhs (h:THp) (x:Value):av1 h (cst x)=.v x:=by unfold cst;split<;>rfl
def top_alloc {zero:List Value} (h:top C q ty (.alloc zero) d s k=some r):∃ v hs,k v hs=some r∧zV S q (.alloc zero) d s v hs:=by
 simp only[top] at h;split at h
 ·rename_i hf;obtain ⟨h0,h1⟩:=zeQ hf;refine ⟨_,_,h,.heap (a:=.pv d 0) rfl (.newV h0) (fun _=>by rw[qu (cl1_var d (zero.map cst) [])];exact h1) ?_ ?_⟩
  ·simp only[aop,zN,h0,blk,AU];congr 5;exact Al fun x _=>by simp only[Function.comp,cst_sl,zhs]
  ·simp only[Av,lv,lv2,lv1,zf,if_true,av,av2,av1]
 ·cases h
def lx {β:Type} (f:TV->β) (cs new:List TV) (off:Nat):(ovw cs off new).map f=(cs.map f).take off++new.map f++(cs.map f).drop (off+(new.map f).length):=by simp only[ovw,Bl,Cc,Cd,Ar]
def zib {h:THp}:∀ {ps:List (Nat×List TV)} {zero cs:List TV},(∀ y∈zero,lv1 h y=y)->(∀ p∈ps,∀ y∈p.2,lv1 h y=y)->fillT zero ps=some cs ->
  zhg (zero.map (av1 h)) (ps.map fun p=>(p.1,p.2.map (av1 h)))=some (cs.map (av1 h))∧∀ y∈cs,lv1 h y=y
 | [],zero,cs,h1,_,hf=>by
  simp only[fillT,Option.some.injEq] at hf;subst hf;exact ⟨rfl,h1⟩
 | (off,ds) :: ps,zero,cs,h1,h2,hf=>by
  simp only[fillT] at hf;split at hf
  ·rename_i hb;have ay:off+ds.length<=zero.length:=BX hb;have h3:∀ y∈ovw zero off ds,lv1 h y=y:=by
    intro y hy;simp only[ovw,Ao] at hy;rcases hy with (hy | hy) | hy
    ·exact h1 y (BH hy)
    ·exact h2 _ Ah y hy
    ·exact h1 y (Bk hy)
   obtain ⟨k1,k2⟩:=zib h3 (fun p hp=>h2 p (Ad _ hp)) hf;refine ⟨?_,k2⟩;simp only[An,zhg,Ar];rw[if_pos ay,← k1,lx];rfl
  ·cases hf
def jR {α β γ:Type} {f:α->Option β} {g:α->Option γ} {m:β->γ} {P:β->Prop}:∀ {l:List α} {ys:List β},(∀ a∈l,∀ y,f a=some y->g a=some (m y)∧P y)->zb f l=some ys->zb g l=some (ys.map m)∧∀ y∈ys,P y
 | [],ys,_,h=>by simp only[zb,Option.some.injEq] at h;subst h;exact ⟨rfl,by simp⟩
 | a :: l,ys,hm,h=>by
  simp only[zb] at h;split at h
  ·rename_i y bH h1 h2;cases h;obtain ⟨k1,k2⟩:=hm a Ah y h1;obtain ⟨k3,k4⟩:=jR (fun a ha=>hm a (Ad _ ha)) h2;exact ⟨by simp only[zb,k1,k3,An],by simpa using ⟨k2,k4⟩⟩
  ·cases h
def top_build {zero:List Value} {parts:List (Nat×Nat×AOpd)} (h:top C q ty (.build zero parts) d s k=some r):∃ v hs,k v hs=some r∧zV S q (.build zero parts) d s v hs:=by
 simp only[top] at h;split at h
 ·rename_i ps eM;split at h
  ·rename_i cs aj
   have h1:=jR (g:=fun (p:Nat×Nat×AOpd)=>match (s.toA.ev p.2.2).cells with | some cs=>if cs.length=p.2.1 then some (p.1,cs) else none | none=>none)
    (m:=fun p=>(p.1,p.2.map (av1 s.hp))) (P:=fun p=>∀ y∈p.2,lv1 s.hp y=y) (fun p _ y hy=>by
     split at hy
     ·rename_i cs hc;split at hy
      ·rename_i hb;cases hy;obtain ⟨c1,c2⟩:=wR (wl s p.2.2) hc;simp only[zE,c1,Ar];rw[if_pos (zB.1 hb)];exact ⟨rfl,fun y hy=>(c2 y hy).1⟩
      ·cases hy
     ·cases hy) eM
   obtain ⟨f1,f2⟩:=zib (h:=s.hp) (zero:=zero.map cst) (by simp[cst_sl]) h1.2 aj;refine ⟨_,_,h,.val rfl ?_⟩;simp only[aop]
   erw [h1.1]
   have e:(zero.map cst).map (av1 s.hp)=zero.map AV.v:=by rw[AU];exact Al fun x _=>zhs _ x
   rw[e] at f1;simp only[f1];rw[jA (zcI (mk_ag f2))];rfl
  ·cases h
 ·cases h
def top_load {n:Option Nat} {x:AOpd} (h:top C q ty (.load n x) d s k=some r):∃ v hs,k v hs=some r∧zV S q (.load n x) d s v hs:=by
 simp only[top] at h;split at h
 ·rename_i t y off hx;obtain ⟨e1,e2⟩:=ye hx;split at h
  ·rename_i v hv;obtain ⟨t1,t2⟩:=zbE t y s.hp;obtain ⟨p1,p2⟩:=yY (h:=s.hp) (fun y hy=>j7 (t2 y hy).1) hv;refine ⟨_,_,h,.val rfl ?_⟩;rw[t1] at p1;simp only[aop,e1,av_ep,cellsAt,p1,jA p2]
  ·cases h
 ·rename_i r' off hx;obtain ⟨e1,e2⟩:=ye hx;split at h
  ·rename_i cs hl;split at h
   ·rename_i v hv;obtain ⟨p1,p2⟩:=yY (h:=s.hp) (fun y hy=>by obtain ⟨z,hz,rfl⟩:=Ap.1 hy;exact yn _ z) hv;refine ⟨_,_,h,.val rfl ?_⟩;rw[AU] at p1;simp only[aop,e1,av_pv,cellsAt,zN,hl,blk];rw[show (cs.map fun x=>av1 s.hp (lv1 s.hp x))=cs.map (av1 s.hp ∘ lv1 s.hp) from rfl,p1,jA p2]
   ·cases h
  ·cases h
 ·rename_i r' v' i off hx;obtain ⟨e1,e2⟩:=ye hx;split at h
  ·rename_i cZ t xs hl;obtain ⟨y,hy,h⟩:=jo h;split at h
   ·rename_i v hv;obtain ⟨t1,t2⟩:=zbE t y s.hp;obtain ⟨p1,p2⟩:=yY (h:=s.hp) (fun y hy=>j7 (t2 y hy).1) hv;refine ⟨_,_,h,.val rfl ?_⟩;rw[t1] at p1;simp only[aop,e1,zhD hl,cellsAt,zN,hl,blk,if_true,Aw,hy,AE,p1,jA p2]
   ·cases h
  ·cases h
 ·cases h
def j8 (t:Ty) (x:t.den):(t.cells x).length=t.z:=by cases t<;>first | rfl | (cases x<;>rfl)
def all_ex {q:Bool} {cs:List TV} (h:exq q cs=true):q=false∨cs.all zcT=true:=by
 cases q with
 | false=>exact .inl rfl
 | true=>right;simpa[exq] using h
def top_store {z:Nat} {a x:AOpd} (h:top C q ty (.store z a x) d s k=some r):∃ v hs,k v hs=some r∧zV S q (.store z a x) d s v hs:=by
 simp only[top] at h;split at h
 ·rename_i new hc;obtain ⟨c1,c2⟩:=wR (wl s x) hc;have kz:∀ y∈new,lv1 s.hp y=y:=fun y hy=>(c2 y hy).1;split at h
  ·rename_i hz;rw[zB] at hz;split at h
   ·rename_i r' off ha;obtain ⟨e1,e2⟩:=ye ha;split at h
    ·rename_i cs hl;split at h
     ·rename_i hb;have ay:off+z<=cs.length:=BX hb;refine ⟨_,_,h,.heap (a:=.bot) rfl (.var hl) (fun hg=>by rw[hl] at hg;cases hg) ?_ rfl⟩;have e3:∀ y,A1 ((r',.var (ovw cs off new)) :: s.hp) y=A1 s.hp y:=fun y=>(push1 (.var hl) fun hg=>by rw[hl] at hg;cases hg).av;simp only[aop,zE,c1,ha,Ar,hz,if_true,av_pv,zN,hl,blk];rw[if_pos (by simpa using ay)];rw[show ((ovw cs off new).map fun x=>av1 ((r',.var (ovw cs off new)) :: s.hp) (lv1 ((r',.var (ovw cs off new)) :: s.hp) x))=(ovw cs off new).map (A1 s.hp) from Al fun y _=>e3 y];rw[lx,show new.map (A1 s.hp)=new.map (av1 s.hp) from Al fun y hy=>by rw[A1,kz y hy]];rfl
     ·cases h
    ·cases h
   ·rename_i r' v' i off ha;obtain ⟨e1,e2⟩:=ye ha;split at h
    ·rename_i cZ t xs hl;split at h
     ·rename_i iN;obtain ⟨y,hy,h⟩:=jo h;split at h
      ·rename_i y' hb hu;obtain ⟨hb,hex⟩:=Au.1 hb;have ay:=BX hb;have hlv:lv1 s.hp (.pe r' v' i off)=.pe r' v' i off:=jl rfl e2;obtain ⟨t',xs',bl⟩:=ziI hlv;rw[hl] at bl;have hvv:cZ=v':=by injection bl
       subst hvv;clear bl;have iJ:=yU hu s.hp;obtain ⟨t1,t2⟩:=zbE t y s.hp;have aT:(ovw (tvs t y) off new).map (av1 s.hp)=qP (t.cells y) off (new.map (av1 s.hp)):=(by rw[lx,t1];rfl);have hrefs:AV.refsL (new.map (av1 s.hp))=[]:=by
        refine Ax.2 fun r0 dN => ?_;obtain ⟨_,h1,h2⟩:=zd.1 dN;obtain ⟨y0,iH,rfl⟩:=Ap.1 h1;have:rf1 y0=[]:=A7.1 iN y0 iH;cases y0 with
        | e x=>cases x<;>simp[av1,Err.av,AV.refs,aI] at h2
        | ns t x=>cases x<;>simp[av1,AV.refs,aN] at h2
        | lw=>simp[rf1] at this
        | ls=>simp[rf1] at this
        | pe=>simp[rf1] at this
        | pv=>simp[rf1] at this
        | _=>simp[av1,AV.refs,aI,aU,aB,aS,aN,ud] at h2
       refine ⟨_,_,h,.row (a:=.bot) (es:=(xs.map t.cells).set i (qP (t.cells y) off (new.map (av1 s.hp)))) rfl (.row hl (by simp)) (fun hg=>by rw[hl] at hg;cases hg) ?_ rfl ?_⟩
       ·simp only[aop,zE,c1,ha,Ar,hz,if_true,zhD hl,zN,hl,blk,Aw,hy,AE];rw[if_pos ⟨True.intro,by rw[tvs_len] at ay;exact ay,hrefs⟩]
       ·rw[List.map_set,← aT];have hi:i < xs.length:=(Aa.1 hy).1;rcases all_ex hex with hq | hex
        ·right;refine ⟨hq,by simp,fun j e e1 h1 h2 => ?_⟩;by_cases hj:i=j
         ·subst hj;simp only[BI,Ar,hi,if_true,Option.some.injEq] at h1 h2;subst h1;subst h2;exact ⟨iJ.pn.1,fun c x y hx hy=>(iJ.pn.2 c x y hx hy).wk⟩
         ·simp only[BI,if_neg hj] at h1 h2;rw[h1] at h2;cases h2;exact ⟨rfl,fun c x y hx hy=>by rw[hx] at hy;cases hy;exact .rfl _⟩
        ·left;rw[iJ.ex hex]
      ·cases h
     ·cases h
    ·cases h
   ·cases h
  ·cases h
 ·cases h
end
end
end Ab
