/-
  Typed values over the abstract machine: types, values, states, and what they are in the abstract machine. Definitions alone.
-/
import Derived.Test.YtkedlclobjhkfaaDoorAbS
namespace Ab
open Go

structure Cell where
  k : Int
  n : Int
  deriving DecidableEq, Inhabited
structure Member where
  name : ByteArray
  parent : Int
  sign : Int
  formula : ByteArray
  deriving DecidableEq, Inhabited
structure Dim where
  name : ByteArray
  solve : Int
  members : List Member
  deriving DecidableEq, Inhabited
structure Node where
  op : Int
  n : Int
  name : ByteArray
  left : Int
  right : Int
  deriving DecidableEq, Inhabited
structure Entry where
  at_ : List Int
  n : Int
  deriving DecidableEq, Inhabited
structure Edit where
  at_ : List Int
  n : Int
  clear : Bool
  deriving DecidableEq, Inhabited
structure Change where
  what : Int
  dim : Int
  member : Int
  name : ByteArray
  to : Int
  sign : Int
  deriving DecidableEq, Inhabited
structure Grid where
  rows : List Int
  cols : List Int
  cells : List (List Cell)
  deriving DecidableEq, Inhabited
structure Sent where
  place : ByteArray
  n : Int
  line : Int
  deriving DecidableEq, Inhabited

/-- Errors: none; a number of package api; another one. -/
inductive Err where
  | nil
  | no (n : Int)
  | oth (t : Nat)
  deriving DecidableEq, Inhabited
def Err.isNil : Err → Bool
  | .nil => true
  | _ => false

/-- Types of elements. -/
inductive Ty where
  | int | u8 | bool | str | cell | member | dim | outl | node | entry | edit | change | grid | sent
  | sl (t : Ty)
  | ns (t : Ty)
  deriving DecidableEq, Inhabited

@[reducible] def Ty.den : Ty → Type
  | .int => Int
  | .u8 => UInt8
  | .bool => Bool
  | .str => ByteArray
  | .cell => Cell
  | .member => Member
  | .dim => Dim
  | .outl => List Dim
  | .node => Node
  | .entry => Entry
  | .edit => Edit
  | .change => Change
  | .grid => Grid
  | .sent => Sent
  | .sl t => List t.den
  | .ns t => Option (List t.den)

/-- How many cells. -/
def Ty.z : Ty → Nat
  | .cell | .entry => 2
  | .member => 4
  | .dim | .edit | .grid | .sent => 3
  | .node => 5
  | .change => 6
  | _ => 1

def aI (n : Int) : AV := .v (.int .i64 n)
def aU (n : Int) : AV := .v (.int .u8 n)
def aB (b : Bool) : AV := .v (.bool b)
def aS (s : ByteArray) : AV := .v (.string s)
def aN : AV := .v (.slice none 0 0)
def Err.av : Err → AV
  | .nil => .v .nilIface
  | .no n => .ifc 1 (aI n)
  | .oth t => .ifc t .bot

def Cell.cs (c : Cell) : List AV := [aI c.k, aI c.n]
def Member.cs (m : Member) : List AV := [aS m.name, aI m.parent, aI m.sign, aS m.formula]
def Dim.cs (d : Dim) : List AV := [aS d.name, aI d.solve, .sl 4 (d.members.map Member.cs)]
def Node.cs (x : Node) : List AV := [aI x.op, aI x.n, aS x.name, aI x.left, aI x.right]
def Entry.cs (e : Entry) : List AV := [.sl 1 (e.at_.map fun n => [aI n]), aI e.n]
def Edit.cs (e : Edit) : List AV := [.sl 1 (e.at_.map fun n => [aI n]), aI e.n, aB e.clear]
def Change.cs (c : Change) : List AV := [aI c.what, aI c.dim, aI c.member, aS c.name, aI c.to, aI c.sign]
def Grid.cs (g : Grid) : List AV := [.sl 1 (g.rows.map fun n => [aI n]), .sl 1 (g.cols.map fun n => [aI n]), .sl 1 (g.cells.map fun l => [.sl 2 (l.map Cell.cs)])]
def Sent.cs (e : Sent) : List AV := [aS e.place, aI e.n, aI e.line]

/-- The cells of an element. -/
def Ty.cells : (t : Ty) → t.den → List AV
  | .int, n => [aI n]
  | .u8, b => [aU b.toNat]
  | .bool, b => [aB b]
  | .str, s => [aS s]
  | .cell, c => Cell.cs c
  | .member, m => Member.cs m
  | .dim, d => Dim.cs d
  | .outl, o => [.sl 3 (List.map Dim.cs o)]
  | .node, x => Node.cs x
  | .entry, e => Entry.cs e
  | .edit, e => Edit.cs e
  | .change, c => Change.cs c
  | .grid, g => Grid.cs g
  | .sent, e => Sent.cs e
  | .sl t, xs => [.sl t.z (List.map t.cells xs)]
  | .ns _, none => [aN]
  | .ns t, some xs => [.sl t.z (List.map t.cells xs)]

def Ty.dflt : (t : Ty) → t.den
  | .int => (0 : Int)
  | .u8 => (0 : UInt8)
  | .bool => false
  | .str => ByteArray.empty
  | .cell => default
  | .member => default
  | .dim => default
  | .outl => []
  | .node => default
  | .entry => default
  | .edit => default
  | .change => default
  | .grid => default
  | .sent => default
  | .sl _ => []
  | .ns _ => none

/-- Typed values. 'lw s v': the whole of the call's own row s, in its version v; 'ls': a part of it; 'pe': a pointer to its element i; 'pv': into variable s; 'ep': to what is only read. -/
inductive TV where
  | bot | ud
  | k (x : Value)
  | i (n : Int)
  | u (n : Int)
  | b (x : Bool)
  | s (x : ByteArray)
  | nl
  | e (x : Err)
  | sl (t : Ty) (xs : List t.den)
  | ns (t : Ty) (x : Option (List t.den))
  | ep (t : Ty) (x : t.den) (off : Nat)
  | pv (s off : Nat)
  | pe (s v i off : Nat)
  | lw (s v : Nat)
  | ls (s v off len : Nat)
  | ag (cs : List TV)
  | tp (vs : List TV)
  | fn (f : Nat) (caps : List TV)
  deriving Inhabited

inductive TB where
  | gone
  | var (cs : List TV)
  | row (v : Nat) (t : Ty) (xs : List t.den)
  | frz (v : Nat) (t : Ty) (xs : List t.den)
  deriving Inhabited

abbrev THp := List (Nat × TB)
structure TSt where
  fr : List (Nat × TV)
  hp : THp
  ctr : Nat
  deriving Inhabited

def look {α : Type} (k : Nat) (dflt : α) : List (Nat × α) → α
  | [] => dflt
  | (a, x) :: r => match Nat.beq a k with | true => x | false => look k dflt r
def TSt.put (s : TSt) (d : Nat) (x : TV) : TSt := { s with fr := (d, x) :: s.fr }
def TSt.putO (s : TSt) (d : Option Nat) (x : TV) : TSt := match d with | some d => s.put d x | none => s
def TSt.push (s : TSt) (h : THp) : TSt := { s with hp := h ++ s.hp, ctr := s.ctr + 1 }

/-! ### which values are still what they were -/

/-- A leaf, as the heap has it now. -/
def lv1 (h : THp) (x : TV) : TV :=
  match x with
  | .lw s v => match look s .gone h with
    | .row v' _ _ => (match Nat.beq v v' with | true => .lw s v | false => .bot)
    | .frz v' t xs => (match Nat.beq v v' with | true => .sl t xs | false => .bot)
    | _ => .bot
  | .ls s v off len => match look s .gone h with
    | .row v' _ _ => (match Nat.beq v v' with | true => .ls s v off len | false => .bot)
    | _ => .bot
  | .pe s v i off => match look s .gone h with
    | .row v' _ _ => (match Nat.beq v v' with | true => .pe s v i off | false => .bot)
    | _ => .bot
  | .pv s off => match look s .gone h with
    | .var _ => .pv s off
    | _ => .bot
  | .ag _ | .tp _ | .fn _ _ => .bot
  | x => x
/-- Is a leaf still what it was, or the same written no more? -/
def live1 (h : THp) (x : TV) : Bool :=
  match x with
  | .lw s v => match look s .gone h with
    | .row v' _ _ => Nat.beq v v'
    | .frz v' _ _ => Nat.beq v v'
    | _ => false
  | .ls s v _ _ | .pe s v _ _ => match look s .gone h with
    | .row v' _ _ => Nat.beq v v'
    | _ => false
  | .pv s _ => match look s .gone h with
    | .var _ => true
    | _ => false
  | .ag _ | .tp _ | .fn _ _ => false
  | _ => true
def lv2 (h : THp) (x : TV) : TV :=
  match x with
  | .ag cs => match cs.all (live1 h) with | true => .ag (cs.map (lv1 h)) | false => .bot
  | x => lv1 h x
def live2 (h : THp) (x : TV) : Bool :=
  match x with
  | .ag cs => cs.all (live1 h)
  | x => live1 h x
def lv (h : THp) (x : TV) : TV :=
  match x with
  | .tp vs => match vs.all (live2 h) with | true => .tp (vs.map (lv2 h)) | false => .bot
  | .fn f vs => match vs.all (live2 h) with | true => .fn f (vs.map (lv2 h)) | false => .bot
  | x => lv2 h x

/-! ### what they are in the abstract machine -/

def av1 (h : THp) (x : TV) : AV :=
  match x with
  | .bot => .bot
  | .ud => Ab.ud
  | .k x => .v x
  | .i n => aI n
  | .u n => aU n
  | .b x => aB x
  | .s x => aS x
  | .nl => aN
  | .e x => x.av
  | .sl t xs => .sl t.z (xs.map t.cells)
  | .ns _ none => aN
  | .ns t (some xs) => .sl t.z (xs.map t.cells)
  | .ep t x off => .ep (t.cells x) off
  | .pv s off => .pv s off
  | .pe s _ i off => match look s .gone h with
    | .row _ t _ => .pe s t.z i off
    | _ => .bot
  | .lw s _ => match look s .gone h with
    | .row _ t xs => .lsl s t.z 0 xs.length
    | _ => .bot
  | .ls s _ off len => match look s .gone h with
    | .row _ t _ => .lsl s t.z off len
    | _ => .bot
  | .ag _ | .tp _ | .fn _ _ => .bot
def av2 (h : THp) (x : TV) : AV :=
  match x with
  | .ag cs => .agg (cs.map (av1 h))
  | x => av1 h x
def av (h : THp) (x : TV) : AV :=
  match x with
  | .tp vs => .tup (vs.map (av2 h))
  | .fn f vs => .fn f (vs.map (av2 h))
  | x => av2 h x
def blk (h : THp) (b : TB) : Option Blk :=
  match b with
  | .var cs => some (.var (cs.map fun x => av1 h (lv1 h x)))
  | .row _ t xs => some (.arr t.z (xs.map t.cells))
  | .gone | .frz _ _ _ => none
def TSt.toA (s : TSt) : ASt := { fr := fun k => av s.hp (lv s.hp (look k .bot s.fr)), hp := fun k => blk s.hp (look k .gone s.hp) }

/-! ### shapes -/

/-- Shapes of values that go from function to function, or from round to round. -/
inductive Sh where
  | int | u8 | bool | str | err | unit
  | sl (t : Ty)
  | ns (t : Ty)
  | st (t : Ty)
  | bx (t : Ty)
  | own (t : Ty)
  | fnc (id : Nat) (caps : List Sh)
  | tp (l : List Sh)
  deriving Inhabited

mutual
@[reducible] def Sh.den : Sh → Type
  | .int => Int
  | .u8 => Int
  | .bool => Bool
  | .str => ByteArray
  | .err => Err
  | .unit => Unit
  | .sl t => List t.den
  | .ns t => Option (List t.den)
  | .st t => t.den
  | .bx t => t.den
  | .own t => List t.den
  | .fnc _ caps => Sh.denL caps
  | .tp l => Sh.denL l
@[reducible] def Sh.denL : List Sh → Type
  | [] => Unit
  | [x] => x.den
  | x :: y :: r => x.den × Sh.denL (y :: r)
end
end Ab
