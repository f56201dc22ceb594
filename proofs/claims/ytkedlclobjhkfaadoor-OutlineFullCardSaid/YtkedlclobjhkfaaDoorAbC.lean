/-
  From a loaded program's code to the abstract machine's: what is resolved of types and numbers. Definitions alone.
-/
import Derived.Test.YtkedlclobjhkfaaDoorAbB
namespace Ab
open Go

/-- The names that one seat's program gives to the functions and types of the abstract machine. -/
structure Seat where
  P : Program
  fns : List (FuncId × Nat)
  tys : List (TypeId × Nat)
  muts : List (Nat × List Nat)
  own : List Nat
  glob : List (Nat × Value) := []

def assoc (k : Nat) : List (Nat × Nat) → Option Nat
  | [] => none
  | (a, b) :: r => if a = k then some b else assoc k r
def assocR (k : Nat) : List (Nat × Nat) → Option Nat
  | [] => none
  | (a, b) :: r => if b = k then some a else assocR k r
def assocL (k : Nat) : List (Nat × List Nat) → List Nat
  | [] => []
  | (a, b) :: r => if a = k then b else assocL k r

def okConst : Value → Bool
  | .bool _ | .int _ _ | .string _ | .nilIface | .nilFunc | .slice none 0 0 | .pointer none => true
  | _ => false

def cOpd (S : Seat) : Operand → Option AOpd
  | .tmp t => some (.t t)
  | .const v => if okConst v then some (.c v) else none
  | .func f => (assoc f S.fns).map .f
  | .global _ => none

def cOpds (S : Seat) (xs : List Operand) : Option (List AOpd) := optAll (cOpd S) xs
def cOpdO (S : Seat) : Option Operand → Option (Option AOpd)
  | none => some none
  | some x => (cOpd S x).map some

/-- The size of a type, and of a struct or an array that it is one. -/
def cSize (P : Program) (t : TypeId) : Option Nat := (P.info? t).map (·.size)
def cAgg (P : Program) (t : TypeId) : Option (Option Nat) :=
  match P.underlying t with
  | some (.struct _) | some (.array _ _) => match cSize P t with | some n => if 0 < n then some (some n) else none | none => none
  | some _ => some none
  | none => none
/-- The cells of a type's zero value, if each is a cell of its own. -/
def cZero (P : Program) (t : TypeId) : Option (List Value) :=
  match P.info? t with
  | some i => match i.zero with | some z => if z.cells.size = i.size ∧ 0 < i.size ∧ z.cells.toList.all okConst = true then some z.cells.toList else none | none => none
  | none => none

/-- May a value of this type lead to memory? (An interface value: what it holds is looked at where it is met.) -/
def cRefs (P : Program) : Nat → TypeId → Bool
  | 0, _ => true
  | d + 1, t =>
    match P.underlying t with
    | some .bool | some (.int _) | some .string | some (.interface _) | some (.float _) => false
    | some (.struct fs) => fs.toList.any fun f => cRefs P d f.type
    | some (.tuple ts) => ts.toList.any fun u => cRefs P d u
    | _ => true

def cShape (P : Program) : List Field → Option (List (Nat × Sc))
  | [] => some []
  | f :: r =>
    if f.name = "_" then none else
    match P.underlying f.type, cShape P r with
    | some (.int _), some l => some ((f.offset, .int) :: l)
    | some .bool, some l => some ((f.offset, .bool) :: l)
    | some .string, some l => some ((f.offset, .str) :: l)
    | _, _ => none

def nilIf : Operand → Bool
  | .const .nilIface => true
  | _ => false

def cBin (S : Seat) (op : BinOp) (t : TypeId) (x y : Operand) : Option AOp :=
  match S.P.underlying t, cOpd S x, cOpd S y with
  | some (.int _), some x, some y => (match op with | .add | .sub | .mul | .quo | .rem | .eql | .neq | .lss | .leq | .gtr | .geq => some (.bin .int op x y) | _ => none)
  | some .string, some x, some y => (match op with | .add | .eql | .neq | .lss | .leq | .gtr | .geq => some (.bin .str op x y) | _ => none)
  | some .bool, some x, some y => (match op with | .eql | .neq => some (.bin .bool op x y) | _ => none)
  | some (.struct fs), some x, some y =>
    if S.P.eqGuardType S.P.depth t = false ∧ S.P.stoodInHeld t = false then
      match op, cShape S.P fs.toList with
      | .eql, some l => some (.eqa false l x y)
      | .neq, some l => some (.eqa true l x y)
      | _, _ => none
    else none
  | some (.interface _), some x', some y' =>
    (match op with
    | .eql => if nilIf y then some (.eqn false false x') else if nilIf x then some (.eqn false false y') else none
    | .neq => if nilIf y then some (.eqn false true x') else if nilIf x then some (.eqn false true y') else none
    | _ => none)
  | some (.slice _), some x', some _ =>
    (match op, y with
    | .eql, .const (.slice none 0 0) => some (.eqn true false x')
    | .neq, .const (.slice none 0 0) => some (.eqn true true x')
    | _, _ => none)
  | _, _, _ => none

def cConv (S : Seat) (s d : TypeId) (x : Operand) : Option AOp :=
  match S.P.underlying s, S.P.underlying d, cOpd S x with
  | some (.int _), some (.int k), some x => some (.cvi k x)
  | some .string, some (.slice e), some x => (match S.P.underlying e, cSize S.P e with | some (.int .u8), some 1 => some (.cvs x) | _, _ => none)
  | _, _, _ => none

/-- A slice type's element: its number, its size in cells. -/
def cElem (P : Program) (t : TypeId) : Option (TypeId × Nat) :=
  match P.underlying t with
  | some (.slice e) => match P.info? e with | some i => if 0 < i.size ∧ i.size ≤ 128 ∧ i.bytes ≤ 128 then some (e, i.size) else none | none => none
  | _ => none

def cField (P : Program) (t : TypeId) (f : Nat) : Option Field :=
  match P.underlying t with
  | some (.struct fs) => fs[f]?
  | _ => none

def cCall (S : Seat) (c : Call) (ty : TypeId) : Option AOp :=
  match c.callee with
  | .value (.func f) =>
    match assoc f S.fns, cOpds S c.args.toList with
    | some id, some xs => if assocL id S.muts = [] then some (.call (cRefs S.P 8 ty) [] id xs) else none
    | _, _ => none
  | .value (.tmp t) => match cOpds S c.args.toList with | some xs => some (.calld (cRefs S.P 8 ty) (.t t) xs) | none => none
  | .builtin .len =>
    match c.args.toList, c.argTypes.toList with
    | [x], [t] => (match S.P.underlying t with | some .string => (cOpd S x).map (.len true) | some (.slice _) => (cOpd S x).map (.len false) | _ => none)
    | _, _ => none
  | .builtin .append =>
    match c.args.toList, c.argTypes.toList with
    | [x, y], [t, u] =>
      (match cElem S.P t, cZero S.P ((cElem S.P t).getD (0, 0)).1, cOpd S x, cOpd S y with
      | some (_, z), some _, some x, some y => if t = u then some (.app z x y) else none
      | _, _, _, _ => none)
    | _, _ => none
  | .builtin .max =>
    match c.args.toList with
    | [x, y] => (match cOpd S x, cOpd S y with | some x, some y => some (.max2 x y) | _, _ => none)
    | _ => none
  | _ => none

def cOp (S : Seat) (o : Op) (ty : TypeId) : Option AOp :=
  match o with
  | .move x | .assign x => (cOpd S x).map .mov
  | .box _ x => (cOpd S x).map .box
  | .alloc e => (cZero S.P e).map .alloc
  | .build t ps =>
    match S.P.underlying t, cZero S.P t, optAll (fun (p : Nat × Operand) => match cField S.P t p.1, cOpd S p.2 with | some f, some x => (match cSize S.P f.type with | some n => some (f.offset, n, x) | none => none) | _, _ => none) ps.toList with
    | some (.struct fs), some zero, some l => (match optAll (fun (f : Field) => cSize S.P f.type) fs.toList with | some _ => some (.build zero l) | none => none)
    | _, _, _ => none
  | .buildSlice t len ps =>
    match cElem S.P t, cZero S.P ((cElem S.P t).getD (0, 0)).1, optAll (fun (p : Nat × Operand) => if p.1 < len then (cOpd S p.2).map fun x => (p.1, x) else none) ps.toList with
    | some (e, z), some zero, some l => if 0 < len ∧ len ≤ 4096 then some (.bslice (cRefs S.P 8 e) z zero len l) else none
    | _, _, _ => none
  | .load t x => match cAgg S.P t, cOpd S x with | some n, some x => some (.load n x) | _, _ => none
  | .store t a x => match cSize S.P t, cOpd S a, cOpd S x with | some z, some a, some x => some (.store z a x) | _, _, _ => none
  | .nilCheck x => (cOpd S x).map .chk
  | .binOp op t x y _ => cBin S op t x y
  | .unOp op _ x => match op with | .neg | .not => (cOpd S x).map (.un op) | _ => none
  | .convert s d x => cConv S s d x
  | .makeInterface t x => match assoc t S.tys, cOpd S x, S.P.underlying t with
    | some k, some x, some (.int _) => some (.ifc k x)
    | some k, some x, some (.struct _) => some (.ifc k x)
    | _, _, _ => none
  | .makeFunc (.func f) first caps => if first.size = 0 then (match assoc f S.fns, cOpds S caps.toList with | some id, some l => some (.mkfn id l) | _, _ => none) else none
  | .makeSlice t l c => match cElem S.P t, cZero S.P ((cElem S.P t).getD (0, 0)).1, cOpd S l, cOpd S c with
    | some (_, z), some zero, some l, some c => some (.mksl z zero l c)
    | _, _, _, _ => none
  | .slice t x lo hi none => match S.P.underlying t, cOpd S x, cOpdO S lo, cOpdO S hi with
    | some .string, some x, some lo, some hi => some (.slc 0 x lo hi)
    | some (.slice _), some x, some lo, some hi => (match cElem S.P t with | some (_, z) => some (.slc z x lo hi) | none => none)
    | _, _, _, _ => none
  | .fieldAddr t x f => match cField S.P t f, cOpd S x with
    | some f, some x => (match cSize S.P f.type with | some n => if 0 < n then some (.fa f.offset x) else none | none => none)
    | _, _ => none
  | .field t x f => match cField S.P t f, cOpd S x with
    | some f, some x => (match cAgg S.P f.type with | some n => some (.fld f.offset n x) | none => none)
    | _, _ => none
  | .indexAddr t x i => match cElem S.P t, cOpd S x, cOpd S i with | some (_, z), some x, some i => some (.ia z x i) | _, _, _ => none
  | .index t x i => match S.P.underlying t, cOpd S x, cOpd S i with | some .string, some x, some i => some (.ix x i) | _, _, _ => none
  | .extract x i => (cOpd S x).map (.ext · i)
  | .pick c a b => match cOpd S c, cOpd S a, cOpd S b with | some c, some a, some b => some (.pick c a b) | _, _, _ => none
  | .call c => cCall S c ty
  | _ => none

def dstB (nt : Nat) : Option Nat → Bool
  | none => true
  | some d => decide (d < nt) && decide (d < 1000)
/-- Where an order is drawn nothing is frozen. -/
def noFrz : AOp → AOp
  | .bslice _ z zero len ps => .bslice false z zero len ps
  | o => o
/-- The slots of a function: whatever is written lies among them. -/
def cOper (S : Seat) (nt : Nat) (ops : Array Oper) (draw : Bool) (o : Oper) : Option AOper :=
  match cOp S o.op o.type, (match o.guard with | none => some none | some (j, want) => ((ops[j]?).bind (·.dst)).map fun t => some (t, want)) with
  | some op, some g =>
    if dstB nt o.dst = true then some { dst := o.dst, op := if draw then noFrz op else op, grd := g, aft := if draw then (o.after.toList.filter (Region.binds .any)).map (·.on) else [] } else none
  | _, _ => none

def isVoid : AOp → Bool
  | .store _ _ _ => true
  | _ => false
/-- A store fills no slot; all else does. -/
def dstOk (o : AOper) : Bool := match o.dst with | none => true | some _ => !isVoid o.op

/-! ### operations whose order is drawn -/

def AOp.opds : AOp → List AOpd
  | .mov x | .box x | .load _ x | .chk x | .eqn _ _ x | .un _ x | .cvi _ x | .cvs x | .ifc _ x | .fa _ x | .fld _ _ x | .ext x _ | .len _ x => [x]
  | .alloc _ => []
  | .build _ ps => ps.map fun p => p.2.2
  | .bslice _ _ _ _ ps => ps.map fun p => p.2
  | .store _ a x => [a, x]
  | .bin _ _ x y | .eqa _ _ x y | .ia _ x y | .ix x y | .app _ x y | .max2 x y | .mksl _ _ x y => [x, y]
  | .mkfn _ xs | .call _ _ _ xs => xs
  | .slc _ x lo hi => x :: (lo.toList ++ hi.toList)
  | .calld _ x xs => x :: xs
  | .pick c a b => [c, a, b]
/-- 0: its operands' values are all that it knows; 1: it reads memory; 2: it makes new memory; 3: it writes; 4: what is left. -/
def AOp.kind : AOp → Nat
  | .load _ _ | .call _ _ _ _ | .calld _ _ _ => 1
  | .alloc _ => 2
  | .bslice false _ _ _ _ => 2
  | .store _ _ _ => 3
  | .bslice true _ _ _ _ | .box _ | .mksl _ _ _ _ | .app _ _ _ => 4
  | _ => 0
def AOper.seen (o : AOper) : List Nat := (o.op.opds.filterMap fun | .t n => some n | _ => none) ++ (match o.grd with | some (t, _) => [t] | none => [])
def fills (d : Option Nat) (l : List Nat) : Bool := match d with | some d => l.contains d | none => false
def pairOk (k i : AOper) : Bool :=
  ((k.op.kind == 0 && Nat.blt i.op.kind 4) || (Nat.blt k.op.kind 2 && Nat.blt i.op.kind 3)) && !fills k.dst i.seen && !fills i.dst k.seen && !fills k.dst i.dst.toList
/-- The operations that stand before each, as bits. -/
def befores (l : List AOper) : List Nat := (l.foldl (fun acc o => acc ++ [o.aft.foldl (fun s j => s ||| (2 ^ j ||| acc.getD j 0)) 0]) [])
def drawPairs (l : List AOper) (b : List Nat) : Nat → AOper → Bool := fun i o =>
  (List.range i).all fun k => (b.getD i 0).testBit k || (match l[k]? with | some p => pairOk p o | none => false)
def drawChk (l : List AOper) : Bool :=
  let b := befores l
  (List.range l.length).all fun i => match l[i]? with | some o => (o.aft.all fun j => Nat.blt j i) && drawPairs l b i o | none => false

def cCode (S : Seat) (nt : Nat) : Code → Option ACode
  | .skip => some .skip
  | .region _ ops draw => match optAll (cOper S nt ops draw) ops.toList with | some l => if l.all dstOk = true ∧ (draw = false ∨ (S.P.follows .mixedOrders = true ∧ drawChk l = true)) then some (.region l draw) else none | none => none
  | .seq a b => match cCode S nt a, cCode S nt b with | some a, some b => some (.seq a b) | _, _ => none
  | .cond c a b => match cOpd S c, cCode S nt a, cCode S nt b with | some c, some a, some b => some (.cond c a b) | _, _, _ => none
  | .block id b => (cCode S nt b).map (.block id)
  | .loop b => (cCode S nt b).map .loop
  | .exit id => some (.exit id)
  | .ret => some .ret
  | _ => none

def cRes (P : Program) : ResultVar → Option ARes
  | .tmp t => some (.tmp t)
  | .cell t ty => (cAgg P ty).map (.cell t)

def cFunc (S : Seat) (id : Nat) (fn : Func) : Option AFunc :=
  match (fn.body.map (cCode S fn.ntmps)).join, optAll (cRes S.P) fn.results.toList with
  | some body, some res => if fn.params.size + fn.nfree ≤ fn.ntmps ∧ assocL id S.muts = [] then some { np := fn.params.size + fn.nfree, nt := fn.ntmps, res, muts := assocL id S.muts, own := S.own.contains id, body } else none
  | _, _ => none

end Ab
