/-
  An abstract machine for Go code without heap addresses: values, states, operations, code. Definitions and plain lemmas alone; no program.
-/
import Derived.RowKit3
import Derived.Laws.OwnMore
namespace Ab
open Go

/-- Abstract values. 'v': a value that names no memory. 'sl z es': a slice that is only read: its elements, each of z cells. 'own': a fresh slice (results, and arguments that are written). 'ep cs off': a pointer into memory that is only read: the cells from the element's start on, and how far in. 'pv': a pointer into a variable of the call's own; 'pe': into an element of a row of the call's own; 'lsl': a slice of such a row. -/
inductive AV where
  | bot
  | v (x : Value)
  | sl (z : Nat) (es : List (List AV))
  | own (z : Nat) (es : List (List AV))
  | agg (cs : List AV)
  | tup (vs : List AV)
  | ep (cs : List AV) (off : Nat)
  | pv (s off : Nat)
  | pe (s z i off : Nat)
  | lsl (s z off len : Nat)
  | fn (f : Nat) (caps : List AV)
  | ifc (t : Nat) (x : AV)
  deriving Inhabited

mutual
def AV.refs : AV → List Nat
  | .bot | .v _ | .sl _ _ | .own _ _ | .ep _ _ => []
  | .agg cs => AV.refsL cs
  | .tup vs => AV.refsL vs
  | .pv s _ => [s]
  | .pe s _ _ _ => [s]
  | .lsl s _ _ _ => [s]
  | .fn _ caps => AV.refsL caps
  | .ifc _ x => AV.refs x
def AV.refsL : List AV → List Nat
  | [] => []
  | x :: r => AV.refs x ++ AV.refsL r
end

/-- A value that names no memory at all, by its outer shape. -/
def AV.plain1 : AV → Bool
  | .bot | .v _ | .ifc _ (.v _) | .ifc _ .bot => true
  | _ => false
def AV.plain2 : AV → Bool
  | .bot | .v _ | .ifc _ (.v _) | .ifc _ .bot => true
  | .agg cs => cs.all AV.plain1
  | _ => false
def AV.plain : AV → Bool
  | .bot | .v _ | .ifc _ (.v _) | .ifc _ .bot => true
  | .agg cs => cs.all AV.plain1
  | .tup vs => vs.all AV.plain2
  | _ => false

/-- A value of one cell. -/
def AV.cell1 : AV → Bool
  | .v (.agg _) | .v (.tuple _) => false
  | .v _ | .sl _ _ | .ep _ _ | .pv _ _ | .pe _ _ _ _ | .lsl _ _ _ _ | .fn _ _ | .ifc _ _ => true
  | .bot | .own _ _ | .agg _ | .tup _ => false

/-- The cells of a value that may be stored. -/
def AV.cells : AV → Option (List AV)
  | .agg cs => if cs.all AV.cell1 then some cs else none
  | x => if x.cell1 then some [x] else none

inductive Blk where
  | var (cs : List AV)
  | arr (z : Nat) (es : List (List AV))
  deriving Inhabited

structure ASt where
  fr : Nat → AV
  hp : Nat → Option Blk

def upd {α : Type} (f : Nat → α) (k : Nat) (x : α) : Nat → α := fun j => if j = k then x else f j
theorem upd_same {α : Type} (f : Nat → α) (k : Nat) (x : α) : upd f k x k = x := by simp [upd]
theorem upd_ne {α : Type} (f : Nat → α) (k : Nat) (x : α) {j : Nat} (h : j ≠ k) : upd f k x j = f j := by simp [upd, h]

def ASt.put (st : ASt) (d : Nat) (x : AV) : ASt := { st with fr := upd st.fr d x }
def ASt.setH (st : ASt) (s : Nat) (b : Option Blk) : ASt := { st with hp := upd st.hp s b }
def ASt.putO (st : ASt) (d : Option Nat) (x : AV) : ASt := match d with | some d => st.put d x | none => st

inductive AOpd where
  | t (n : Nat)
  | c (x : Value)
  | f (id : Nat)
  deriving Inhabited

def ASt.ev (st : ASt) : AOpd → AV
  | .t n => st.fr n
  | .c x => .v x
  | .f id => .fn id []

inductive Sc where
  | bool | int | str
  deriving DecidableEq, Inhabited

inductive AOp where
  | mov (x : AOpd)
  | box (x : AOpd)
  | alloc (zero : List Value)
  | build (zero : List Value) (parts : List (Nat × Nat × AOpd))
  | bslice (frz : Bool) (z : Nat) (zero : List Value) (len : Nat) (parts : List (Nat × AOpd))
  | load (n : Option Nat) (x : AOpd)
  | store (z : Nat) (a x : AOpd)
  | chk (x : AOpd)
  | bin (k : Sc) (op : BinOp) (x y : AOpd)
  | eqa (neg : Bool) (shape : List (Nat × Sc)) (x y : AOpd)
  | eqn (sl neg : Bool) (x : AOpd)
  | un (op : UnOp) (x : AOpd)
  | cvi (k : IntKind) (x : AOpd)
  | cvs (x : AOpd)
  | ifc (t : Nat) (x : AOpd)
  | mkfn (f : Nat) (caps : List AOpd)
  | mksl (z : Nat) (zero : List Value) (len cap : AOpd)
  | slc (z : Nat) (x : AOpd) (lo hi : Option AOpd)
  | fa (off : Nat) (x : AOpd)
  | fld (off : Nat) (n : Option Nat) (x : AOpd)
  | ia (z : Nat) (x i : AOpd)
  | ix (x i : AOpd)
  | ext (x : AOpd) (i : Nat)
  | len (str : Bool) (x : AOpd)
  | app (z : Nat) (x y : AOpd)
  | call (frz : Bool) (muts : List Nat) (f : Nat) (args : List AOpd)
  | calld (frz : Bool) (x : AOpd) (args : List AOpd)
  | pick (c a b : AOpd)
  | max2 (x y : AOpd)
  deriving Inhabited

structure AOper where
  dst : Option Nat
  op : AOp
  grd : Option (Nat × Bool)
  aft : List Nat
  deriving Inhabited

inductive ACode where
  | skip
  | region (ops : List AOper) (draw : Bool)
  | seq (a b : ACode)
  | cond (c : AOpd) (a b : ACode)
  | block (id : Nat) (b : ACode)
  | loop (b : ACode)
  | exit (id : Nat)
  | ret
  deriving Inhabited

inductive AExit where
  | norm
  | exit (id : Nat)
  | ret

/-! ### operations -/

def strEq (a b : ByteArray) : Bool := decide (a = b)
def wi (n : Int) : Int := IntKind.i64.wrap n

/-- The room that one row may take: so many elements at most. -/
def roomA : Nat := 1099511627776

def binV (t : Sc) (op : BinOp) (x y : Value) : Option Value :=
  match t, x, y with
  | .int, .int k a, .int k' b =>
    if k = k' then
      match op with
      | .add => some (.int k (k.wrap (a + b)))
      | .sub => some (.int k (k.wrap (a - b)))
      | .mul => some (.int k (k.wrap (a * b)))
      | .quo => if b = 0 then none else some (.int k (k.wrap (a.tdiv b)))
      | .rem => if b = 0 then none else some (.int k (a.tmod b))
      | .eql => some (.bool (decide (a = b)))
      | .neq => some (.bool (decide (¬ a = b)))
      | .lss => some (.bool (decide (a < b)))
      | .leq => some (.bool (decide (a ≤ b)))
      | .gtr => some (.bool (decide (b < a)))
      | .geq => some (.bool (decide (b ≤ a)))
      | _ => none
    else none
  | .str, .string a, .string b =>
    match op with
    | .add => if a.size + b.size ≤ 9223372036854775807 then some (.string (a ++ b)) else none
    | .eql => some (.bool (decide (a = b)))
    | .neq => some (.bool (decide (¬ a = b)))
    | .lss => some (.bool (Op.bytesLess a.toList b.toList))
    | .leq => some (.bool (Op.bytesLess a.toList b.toList || strEq a b))
    | .gtr => some (.bool (!(Op.bytesLess a.toList b.toList || strEq a b)))
    | .geq => some (.bool (!Op.bytesLess a.toList b.toList))
    | _ => none
  | .bool, .bool a, .bool b =>
    match op with
    | .eql => some (.bool (decide (a = b)))
    | .neq => some (.bool (decide (¬ a = b)))
    | _ => none
  | _, _, _ => none

def unV (op : UnOp) (x : Value) : Option Value :=
  match op, x with
  | .neg, .int k n => some (.int k (k.wrap (0 - n)))
  | .not, .bool b => some (.bool !b)
  | _, _ => none

def scEq (s : Sc) (x y : AV) : Option Bool :=
  match s, x, y with
  | .int, .v (.int k a), .v (.int k' b) => if k = k' then some (decide (a = b)) else none
  | .bool, .v (.bool a), .v (.bool b) => some (decide (a = b))
  | .str, .v (.string a), .v (.string b) => some (decide (a = b))
  | _, _, _ => none

def eqAll (cs ds : List AV) : List (Nat × Sc) → Option Bool
  | [] => some true
  | (off, s) :: r =>
    match cs[off]?, ds[off]? with
    | some x, some y =>
      match scEq s x y, eqAll cs ds r with
      | some a, some b => some (a && b)
      | _, _ => none
    | _, _ => none

/-- A part of a value of several cells. -/
def partA (cs : List AV) (off : Nat) : Option Nat → Option AV
  | none => match cs[off]? with | some x => if x.cell1 then some x else none | none => none
  | some n => if off + n ≤ cs.length then some (.agg ((cs.drop off).take n)) else none

/-- The cells behind a pointer, from the variable's or element's start on, and how far in it leads. -/
def cellsAt (hp : Nat → Option Blk) : AV → Option (List AV × Nat)
  | .ep cs off => some (cs, off)
  | .pv s off => match hp s with | some (.var cs) => some (cs, off) | _ => none
  | .pe s z i off => match hp s with | some (.arr z' es) => if z = z' then (match es[i]? with | some cs => some (cs, off) | none => none) else none | _ => none
  | _ => none

def overwrite (cs : List AV) (off : Nat) (new : List AV) : List AV := cs.take off ++ new ++ cs.drop (off + new.length)

/-- One level of a value without references to the call's own memory: what is handed on. -/
def snap1 (hp : Nat → Option Blk) : AV → Option AV
  | .pe s z i off => match hp s with | some (.arr z' es) => if z = z' then (match es[i]? with | some cs => some (.ep cs off) | none => none) else none | _ => none
  | .lsl s z off len => match hp s with | some (.arr z' es) => if z = z' ∧ off + len ≤ es.length then some (.sl z ((es.drop off).take len)) else none | _ => none
  | .own _ _ => none
  | x => if x.refs.isEmpty then some x else none

def optAll {α β : Type} (f : α → Option β) : List α → Option (List β)
  | [] => some []
  | x :: r => match f x, optAll f r with | some y, some ys => some (y :: ys) | _, _ => none

/-- A value without references: three levels deep (a struct's cells; a variable's cells; a function value's captured variables). -/
def snap2 (hp : Nat → Option Blk) : AV → Option AV
  | .pv s off => match hp s with | some (.var cs) => (match optAll (snap1 hp) cs with | some cs' => some (.ep cs' off) | none => none) | _ => none
  | .agg cs => match optAll (snap1 hp) cs with | some cs' => some (.agg cs') | none => none
  | x => snap1 hp x
def snap (hp : Nat → Option Blk) : AV → Option AV
  | .fn f caps => match optAll (snap2 hp) caps with | some cs' => some (.fn f cs') | none => none
  | .tup vs => match optAll (snap2 hp) vs with | some vs' => some (.tup vs') | none => none
  | .agg cs => match optAll (snap2 hp) cs with | some cs' => some (.agg cs') | none => none
  | x => snap2 hp x

/-- References to row s are struck. -/
def scrub (s : Nat) (x : AV) : AV := if x.refs.contains s then .bot else x
def scrubB (s : Nat) : Blk → Blk
  | .var cs => .var (cs.map (scrub s))
  | b => b
def ASt.scrub (st : ASt) (s : Nat) : ASt := { fr := fun k => Ab.scrub s (st.fr k), hp := fun k => (st.hp k).map (scrubB s) }

/-- Row s is written no more: what refers to it is a slice that is only read. -/
def frz (s z0 : Nat) (es : List (List AV)) (x : AV) : AV :=
  match x with
  | .lsl s' z off len => if s' = s then (if z = z0 ∧ off + len ≤ es.length then .sl z ((es.drop off).take len) else .bot) else x
  | .pe s' z i off => if s' = s then (if z = z0 then (match es[i]? with | some cs => .ep cs off | none => .bot) else .bot) else x
  | x => if x.refs.contains s then .bot else x
def frzB (s z0 : Nat) (es : List (List AV)) : Blk → Blk
  | .var cs => .var (cs.map (frz s z0 es))
  | b => b
/-- The row s, made one that is only read. -/
def ASt.freeze (st : ASt) (s : Nat) : ASt :=
  match st.hp s with
  | some (.arr z es) => { fr := fun k => frz s z es (st.fr k), hp := fun k => if k = s then none else (st.hp k).map (frzB s z es) }
  | _ => st

def ASt.freezeL (st : ASt) : List Nat → ASt
  | [] => st
  | s :: r => (st.freeze s).freezeL r
def partRefs (st : ASt) (parts : List (Nat × AOpd)) : List Nat := AV.refsL (parts.map fun p => st.ev p.2)

def fillZ (zero : List AV) : List (Nat × List AV) → Option (List AV)
  | [] => some zero
  | (off, cs) :: r => if off + cs.length ≤ zero.length then fillZ (overwrite zero off cs) r else none

def optInt : AV → Option Int
  | .v (.int .i64 n) => some n
  | _ => none

/-- The bounds of a slice expression. -/
def bounds (st : ASt) (n : Nat) (lo hi : Option AOpd) : Option (Nat × Nat) :=
  match (match hi with | none => some (n : Int) | some x => optInt (st.ev x)), (match lo with | none => some (0 : Int) | some x => optInt (st.ev x)) with
  | some h, some l => if 0 ≤ l ∧ l ≤ h ∧ h ≤ n then some (l.toNat, h.toNat) else none
  | _, _ => none

/-- The elements of a slice. -/
def elemsOf (hp : Nat → Option Blk) (z0 : Nat) : AV → Option (List (List AV))
  | .v (.slice none 0 0) => some []
  | .sl z es => if z = z0 then some es else none
  | .lsl s z off len => match hp s with | some (.arr z' es) => if z = z0 ∧ z' = z0 ∧ off + len ≤ es.length then some ((es.drop off).take len) else none | _ => none
  | _ => none

/-- An operation that is no call: the value that it gives and the state behind it (d: the slot that it fills, the name of what it makes). -/
def aop (o : AOp) (d : Nat) (st : ASt) : Option (AV × ASt) :=
  match o with
  | .mov x => some (st.ev x, st)
  | .box x => match (st.ev x).cells, st.hp d with | some cs, none => some (.pv d 0, st.setH d (some (.var cs))) | _, _ => none
  | .alloc zero => match st.hp d with | none => some (.pv d 0, st.setH d (some (.var (zero.map AV.v)))) | _ => none
  | .build zero parts =>
    match optAll (fun (p : Nat × Nat × AOpd) => match (st.ev p.2.2).cells with | some cs => if cs.length = p.2.1 then some (p.1, cs) else none | none => none) parts with
    | some ps => match fillZ (zero.map AV.v) ps with | some cs => some (.agg cs, st) | none => none
    | none => none
  | .bslice frz z zero len parts =>
    match st.hp d, optAll (fun (p : Nat × AOpd) => match (st.ev p.2).cells with | some cs => (match optAll (snap1 st.hp) cs with | some cs => if cs.length = z then some (p.1, cs) else none | none => none) | none => none) parts with
    | none, some ps => if frz = true ∨ partRefs st parts = [] then some (.lsl d z 0 len, (st.freezeL (partRefs st parts)).setH d (some (.arr z (ps.foldl (fun es p => es.set p.1 p.2) (List.replicate len (zero.map AV.v)))))) else none
    | _, _ => none
  | .load n x => match cellsAt st.hp (st.ev x) with | some (cs, off) => (match partA cs off n with | some y => some (y, st) | none => none) | none => none
  | .store z a x =>
    match (st.ev x).cells with
    | some new =>
      if new.length = z then
        match st.ev a with
        | .pv s off => match st.hp s with | some (.var cs) => if off + z ≤ cs.length then some (.bot, st.setH s (some (.var (overwrite cs off new)))) else none | _ => none
        | .pe s z0 i off =>
          match st.hp s with
          | some (.arr z' es) => (match es[i]? with | some cs => if z0 = z' ∧ off + z ≤ cs.length ∧ AV.refsL new = [] then some (.bot, st.setH s (some (.arr z' (es.set i (overwrite cs off new))))) else none | none => none)
          | _ => none
        | _ => none
      else none
    | none => none
  | .chk x => match st.ev x with
    | .pv s off => some (.pv s off, st)
    | .pe s z i off => some (.pe s z i off, st)
    | .ep cs off => some (.ep cs off, st)
    | .fn f caps => some (.fn f caps, st)
    | _ => none
  | .bin k op x y => match st.ev x, st.ev y with | .v a, .v b => (match binV k op a b with | some r => some (.v r, st) | none => none) | _, _ => none
  | .eqa neg shape x y => match st.ev x, st.ev y with
    | .agg cs, .agg ds => (match eqAll cs ds shape with | some r => some (.v (.bool (if neg then !r else r)), st) | none => none)
    | _, _ => none
  | .eqn sl neg x =>
    if sl = true then
      (match st.ev x with
      | .v (.slice none 0 0) => some (.v (.bool (!neg)), st)
      | .sl _ (_ :: _) => some (.v (.bool neg), st)
      | _ => none)
    else
      (match st.ev x with
      | .v .nilIface => some (.v (.bool (!neg)), st)
      | .ifc _ _ => some (.v (.bool neg), st)
      | .v (.iface _ _) => some (.v (.bool neg), st)
      | _ => none)
  | .un op x => match st.ev x with | .v a => (match unV op a with | some r => some (.v r, st) | none => none) | _ => none
  | .cvi k x => match st.ev x with | .v (.int _ n) => some (.v (.int k (k.wrap n)), st) | _ => none
  | .cvs x => match st.ev x with | .v (.string s) => some (.sl 1 (s.data.toList.map fun b => [AV.v (.int .u8 b.toNat)]), st) | _ => none
  | .ifc t x => some (.ifc t (st.ev x), st)
  | .mkfn f caps => some (.fn f (caps.map st.ev), st)
  | .mksl z zero len cap => match st.hp d, st.ev len, st.ev cap with
    | none, .v (.int .i64 n), .v (.int .i64 c) => if 0 ≤ n ∧ n ≤ c ∧ c ≤ roomA then some (.lsl d z 0 n.toNat, st.setH d (some (.arr z (List.replicate n.toNat (zero.map AV.v))))) else none
    | _, _, _ => none
  | .slc z x lo hi =>
    if z = 0 then (match st.ev x with | .v (.string s) => (match bounds st s.size lo hi with | some (l, h) => some (.v (.string (s.extract l h)), st) | none => none) | _ => none)
    else
      (match st.ev x with
      | .v (.slice none 0 0) => (match bounds st 0 lo hi with | some _ => some (.v (.slice none 0 0), st) | none => none)
      | .sl z' es => if z = z' then (match bounds st es.length lo hi with | some (l, h) => some (.sl z ((es.drop l).take (h - l)), st) | none => none) else none
      | .lsl s z' off len => if z = z' then (match bounds st len lo hi with | some (l, h) => some (.lsl s z (off + l) (h - l), st) | none => none) else none
      | _ => none)
  | .fa off x => match st.ev x with
    | .pv s o => some (.pv s (o + off), st)
    | .pe s z i o => some (.pe s z i (o + off), st)
    | .ep cs o => some (.ep cs (o + off), st)
    | _ => none
  | .fld off n x => match st.ev x with | .agg cs => (match partA cs off n with | some y => some (y, st) | none => none) | _ => none
  | .ia z x i => match st.ev x, st.ev i with
    | .sl z' es, .v (.int _ n) => if z = z' ∧ 0 ≤ n then (match es[n.toNat]? with | some cs => some (.ep cs 0, st) | none => none) else none
    | .lsl s z' off len, .v (.int _ n) => if z = z' ∧ 0 ≤ n ∧ n < len then some (.pe s z (off + n.toNat) 0, st) else none
    | _, _ => none
  | .ix x i => match st.ev x, st.ev i with
    | .v (.string s), .v (.int _ n) => if 0 ≤ n then (match s.data[n.toNat]? with | some b => some (.v (.int .u8 b.toNat), st) | none => none) else none
    | _, _ => none
  | .ext x i => match st.ev x with | .tup vs => (match vs[i]? with | some y => some (y, st) | none => none) | _ => none
  | .len str x =>
    if str = true then (match st.ev x with | .v (.string s) => some (.v (.int .i64 s.size), st) | _ => none)
    else
      (match st.ev x with
      | .v (.slice none 0 0) => some (.v (.int .i64 0), st)
      | .sl _ es => some (.v (.int .i64 es.length), st)
      | .lsl _ _ _ n => some (.v (.int .i64 n), st)
      | _ => none)
  | .app z x y =>
    match elemsOf st.hp z (st.ev y) with
    | some ys =>
      match st.ev x with
      | .v (.slice none 0 0) => if ys.length ≤ roomA then (match st.hp d with | none => some (.lsl d z 0 ys.length, st.setH d (some (.arr z ys))) | some _ => none) else none
      | .lsl s z' 0 n =>
        match st.hp s with
        | some (.arr z'' es) => if s < 1000 ∧ z = z' ∧ z = z'' ∧ n = es.length ∧ n + ys.length ≤ roomA then some (.lsl s z 0 (n + ys.length), (st.scrub s).setH s (some (.arr z (es ++ ys)))) else none
        | _ => none
      | _ => none
    | none => none
  | .pick c a b => match st.ev c with | .v (.bool t) => some (if t then st.ev a else st.ev b, st) | _ => none
  | .max2 x y => match st.ev x, st.ev y with | .v (.int k a), .v (.int _ b) => some (.v (.int k (if b > a then b else a)), st) | _, _ => none
  | .call _ _ _ _ | .calld _ _ _ => none

end Ab
