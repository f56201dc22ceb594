/-
  Typed values over the abstract machine: how code runs on typed states, as a value that the kernel can work out. Definitions alone.
-/
import Derived.Test.YtkedlclobjhkfaaDoorTA
namespace Ab
open Go

/-! ### what a run's text is made of -/
section
variable {α β σ : Type}
def br (b : Bool) (x y : Option α) : Option α := match b with | true => x | false => y
def ck (b : Bool) (x : Option α) : Option α := match b with | true => x | false => none
def bnd (x : β) (k : β → Option α) : Option α := k x
def bno (x : Option β) (k : β → Option α) : Option α := match x with | some y => k y | none => none
def lookI (xs : List β) (n : Int) : Option β := if 0 ≤ n then xs[n.toNat]? else none
def jn (x : Option (Sum σ α)) (k : σ → Option α) : Option α :=
  match x with
  | some (.inl y) => k y
  | some (.inr a) => some a
  | none => none
def inlO (x : Option σ) : Option (Sum σ α) := match x with | some y => some (.inl y) | none => none
def inrO (x : Option α) : Option (Sum σ α) := match x with | some y => some (.inr y) | none => none
/-- A round of a loop: on to the next; done; or the whole is at its end. -/
inductive LR (σ α : Type) where
  | nx (x : σ)
  | dn (x : σ)
  | fin (a : α)
def nxO (x : Option σ) : Option (LR σ α) := match x with | some y => some (.nx y) | none => none
def dnO (x : Option σ) : Option (LR σ α) := match x with | some y => some (.dn y) | none => none
def finO (x : Option α) : Option (LR σ α) := match x with | some y => some (.fin y) | none => none
def lpN (B : σ → Option (LR σ α)) : Nat → σ → Option (Sum σ α)
  | 0, _ => none
  | n + 1, x => match B x with
    | some (.nx y) => lpN B n y
    | some (.dn y) => some (.inl y)
    | some (.fin a) => some (.inr a)
    | none => none
open Classical in
/-- A loop: what comes of it in as many rounds as it takes. -/
noncomputable def lpO (B : σ → Option (LR σ α)) (x : σ) : Option (Sum σ α) := if h : ∃ n, (lpN B n x).isSome = true then lpN B (Classical.choose h) x else none
noncomputable def lp (B : σ → Option (LR σ α)) (x : σ) (k : σ → Option α) : Option α := jn (lpO B x) k
end

/-! ### cells and shapes -/

def tvs : (t : Ty) → t.den → List TV
  | .int, n => [.i n]
  | .u8, b => [.u b.toNat]
  | .bool, b => [.b b]
  | .str, s => [.s s]
  | .cell, c => [.i (Cell.k c), .i (Cell.n c)]
  | .member, m => [.s (Member.name m), .i (Member.parent m), .i (Member.sign m), .s (Member.formula m)]
  | .dim, d => [.s (Dim.name d), .i (Dim.solve d), .sl .member (Dim.members d)]
  | .outl, o => [.sl .dim o]
  | .node, x => [.i (Node.op x), .i (Node.n x), .s (Node.name x), .i (Node.left x), .i (Node.right x)]
  | .entry, e => [.sl .int (Entry.at_ e), .i (Entry.n e)]
  | .edit, e => [.sl .int (Edit.at_ e), .i (Edit.n e), .b (Edit.clear e)]
  | .change, c => [.i (Change.what c), .i (Change.dim c), .i (Change.member c), .s (Change.name c), .i (Change.to c), .i (Change.sign c)]
  | .grid, g => [.sl .int (Grid.rows g), .sl .int (Grid.cols g), .sl (.sl .cell) (Grid.cells g)]
  | .sent, e => [.s (Sent.place e), .i (Sent.n e), .i (Sent.line e)]
  | .sl t, xs => [.sl t xs]
  | .ns t, x => [.ns t x]

def castT {t : Ty} (t' : Ty) (xs : List t.den) : Option (List t'.den) := if h : t = t' then some (h ▸ xs) else none
def castE {t : Ty} (t' : Ty) (x : t.den) : Option t'.den := if h : t = t' then some (h ▸ x) else none

/-- A leaf that is only read for now: slices of rows as they are. -/
def snapT (h : THp) (x : TV) : TV :=
  match x with
  | .lw s _ => match look s .gone h with
    | .row _ t xs => .sl t xs
    | _ => .bot
  | .ls _ _ _ _ | .pv _ _ | .pe _ _ _ _ => .bot
  | x => x

def dI : TV → Option Int
  | .i n => some n
  | _ => none
def dU : TV → Option Int
  | .u n => some n
  | _ => none
def dB : TV → Option Bool
  | .b n => some n
  | _ => none
def dS : TV → Option ByteArray
  | .s n => some n
  | _ => none
def dE : TV → Option Err
  | .e n => some n
  | _ => none
def dSl (t : Ty) : TV → Option (List t.den)
  | .nl => some []
  | .sl _ xs => castT t xs
  | .ns _ none => some []
  | .ns _ (some xs) => castT t xs
  | _ => none
def dNs (t : Ty) : TV → Option (Option (List t.den))
  | .nl => some none
  | .sl _ xs => match castT t xs with | some ys => some (some ys) | none => none
  | .ns t' x => castE (.ns t) (t := .ns t') x
  | _ => none

/-- A struct of its cells. -/
def unTv : (t : Ty) → List TV → Option t.den
  | .int, [a] => dI a
  | .bool, [a] => dB a
  | .str, [a] => dS a
  | .cell, [a, b] => match dI a, dI b with | some a, some b => some (Cell.mk a b) | _, _ => none
  | .member, [a, b, c, d] => match dS a, dI b, dI c, dS d with | some a, some b, some c, some d => some (Member.mk a b c d) | _, _, _, _ => none
  | .dim, [a, b, c] => match dS a, dI b, dSl .member c with | some a, some b, some c => some (Dim.mk a b c) | _, _, _ => none
  | .outl, [a] => dSl .dim a
  | .node, [a, b, c, d, e] => match dI a, dI b, dS c, dI d, dI e with | some a, some b, some c, some d, some e => some (Node.mk a b c d e) | _, _, _, _, _ => none
  | .entry, [a, b] => match dSl .int a, dI b with | some a, some b => some (Entry.mk a b) | _, _ => none
  | .edit, [a, b, c] => match dSl .int a, dI b, dB c with | some a, some b, some c => some (Edit.mk a b c) | _, _, _ => none
  | .change, [a, b, c, d, e, f] => match dI a, dI b, dI c, dS d, dI e, dI f with | some a, some b, some c, some d, some e, some f => some (Change.mk a b c d e f) | _, _, _, _, _, _ => none
  | .grid, [a, b, c] => match dSl .int a, dSl .int b, dSl (.sl .cell) c with | some a, some b, some c => some (Grid.mk a b c) | _, _, _ => none
  | .sent, [a, b, c] => match dS a, dI b, dI c with | some a, some b, some c => some (Sent.mk a b c) | _, _, _ => none
  | .sl t, [a] => dSl t a
  | .ns t, [a] => dNs t a
  | _, _ => none

/-- The cells of a value that may be stored. -/
def ok1 : TV → Bool
  | .bot | .ud | .ag _ | .tp _ | .fn _ _ => false
  | .k x => match x with | .nilFunc | .pointer none => true | _ => false
  | _ => true
def cellsT : TV → Option (List TV)
  | .ag cs => match cs.all ok1 with | true => some cs | false => none
  | x => match ok1 x with | true => some [x] | false => none
def partT (cs : List TV) (off : Nat) : Option Nat → Option TV
  | none => match cs[off]? with | some x => (match ok1 x with | true => some x | false => none) | none => none
  | some n => match Nat.ble (off + n) cs.length with | true => some (.ag ((cs.drop off).take n)) | false => none
def ovw (cs : List TV) (off : Nat) (new : List TV) : List TV := cs.take off ++ new ++ cs.drop (off + new.length)

mutual
/-- A value as one of a shape; the heap h is asked of what is only read for now. -/
def dec (h : THp) : (sh : Sh) → TV → Option sh.den
  | .int, v => dI v
  | .u8, v => dU v
  | .bool, v => dB v
  | .str, v => dS v
  | .err, v => dE v
  | .unit, v => match v with | .tp [] => some () | _ => none
  | .sl t, v => dSl t (snapT h v)
  | .ns t, v => dNs t (snapT h v)
  | .st t, v => match v with | .ag cs => unTv t (cs.map (snapT h)) | _ => none
  | .bx t, v => match v with
    | .ep _ x 0 => castE t x
    | .pv s 0 => match look s .gone h with | .var cs => unTv t (cs.map fun x => snapT h (lv1 h x)) | _ => none
    | _ => none
  | .own _, _ => none
  | .fnc id caps, v => match v with | .fn f vs => (match Nat.beq id f with | true => decL h caps vs | false => none) | _ => none
  | .tp l, v => match v with | .tp vs => decL h l vs | _ => none
def decL (h : THp) : (l : List Sh) → List TV → Option (Sh.denL l)
  | [], [] => some ()
  | [x], [v] => dec h x v
  | x :: y :: r, v :: vs => match dec h x v, decL h (y :: r) vs with | some a, some b => some (a, b) | _, _ => none
  | _, _ => none
end

mutual
def enc : (sh : Sh) → sh.den → TV
  | .int, n => .i n
  | .u8, n => .u n
  | .bool, b => .b b
  | .str, s => .s s
  | .err, e => .e e
  | .unit, _ => .tp []
  | .sl t, xs => .sl t xs
  | .ns t, x => .ns t x
  | .st t, x => .ag (tvs t x)
  | .bx t, x => .ep t x 0
  | .own t, xs => .sl t xs
  | .fnc id caps, x => .fn id (encL caps x)
  | .tp l, x => .tp (encL l x)
def encL : (l : List Sh) → Sh.denL l → List TV
  | [], _ => []
  | [x], v => [enc x v]
  | x :: y :: r, v => enc x v.1 :: encL (y :: r) v.2
end

/-! ### calls -/

/-- What is known of a function: called so, it answers so. -/
structure CSpec where
  f : Nat
  sig : List Sh
  res : Sh
  fn : Sh.denL sig → Option res.den
  tot : Bool

/-- A shape whose values name no memory. -/
def Sh.flat : Sh → Bool
  | .int | .u8 | .bool | .str | .err | .st .cell | .st .member | .st .node | .st .change | .st .sent => true
  | _ => false
def Sh.plain : Sh → Bool
  | .unit => true
  | .tp l => l.all Sh.flat
  | x => x.flat
/-- Shapes that answers have: no functions among them, no tuples in tuples. -/
def Sh.ans1 : Sh → Bool
  | .fnc _ _ | .tp _ | .unit => false
  | _ => true
def Sh.ans : Sh → Bool
  | .fnc _ _ => false
  | .tp l => l.all Sh.ans1
  | _ => true
def Sh.own1 : Sh → Bool
  | .own _ => true
  | _ => false
def Sh.owns : Sh → Bool
  | .own _ => true
  | .tp l => l.any Sh.own1
  | _ => false

/-- The rows and variables that a value leads to. -/
def rf1 : TV → List Nat
  | .lw s _ | .ls s _ _ _ | .pe s _ _ _ | .pv s _ => [s]
  | _ => []
def rf2 : TV → List Nat
  | .ag cs => cs.flatMap rf1
  | x => rf1 x
def rf : TV → List Nat
  | .tp vs | .fn _ vs => vs.flatMap rf2
  | x => rf2 x

/-- Rows that are written no more; none, if one is no row. -/
def frzs (h : THp) : List Nat → Option THp
  | [] => some []
  | s :: r => match look s .gone h with
    | .row v t xs => match frzs ((s, .frz v t xs) :: h) r with | some hs => some (hs ++ [(s, .frz v t xs)]) | none => none
    | .frz _ _ _ => frzs h r
    | .gone => frzs h r
    | _ => none

def isGone : TB → Bool
  | .gone => true
  | _ => false
/-- Would a value that refers to what stood under the name d be taken to refer to b? -/
def cl1 (d : Nat) (b : TB) (x : TV) : Bool :=
  match x, b with
  | .pv s _, .var _ => Nat.beq s d
  | .lw s v, .row n _ _ | .ls s v _ _, .row n _ _ | .pe s v _ _, .row n _ _ => Nat.beq s d && Nat.beq v n
  | _, _ => false
def cl2 (d : Nat) (b : TB) (x : TV) : Bool :=
  match x with
  | .ag cs => cs.any (cl1 d b)
  | x => cl1 d b x
def cl (d : Nat) (b : TB) (x : TV) : Bool :=
  match x with
  | .tp vs | .fn _ vs => vs.any (cl2 d b)
  | x => cl2 d b x
def freeB (d : Nat) (b : TB) (s : TSt) : Bool :=
  s.fr.all (fun p => !cl d b p.2) && s.hp.all (fun p => match p.2 with | .var cs => cs.all (fun x => !cl1 d b x) | _ => true)
/-- The name d is free for a new variable; for a new row of version n. -/
def freeV (d : Nat) (s : TSt) : Bool := isGone (look d .gone s.hp) && freeB d (.var []) s
def freeR (d n : Nat) (s : TSt) : Bool := isGone (look d .gone s.hp) && freeB d (.row n .int []) s
/-- A cell that is taken as it is. -/
def exact1 : TV → Bool
  | .nl | .ns _ _ => false
  | _ => true
def exq (q : Bool) (cs : List TV) : Bool := !q || cs.all exact1
/-- An answer comes into the caller: its fresh slices as rows of its own. -/
def opnL (s : TSt) (n d : Nat) : (i : Nat) → (l : List Sh) → Sh.denL l → Option (List TV × THp)
  | _, [], _ => some ([], [])
  | i, [.own t], xs => match freeR (d + 10000 * (i + 1)) n s with | true => some ([.lw (d + 10000 * (i + 1)) n], [(d + 10000 * (i + 1), .row n t xs)]) | false => none
  | _, [x], v => some ([enc x v], [])
  | i, .own t :: y :: r, v => match freeR (d + 10000 * (i + 1)) n s, opnL s n d (i + 1) (y :: r) v.2 with
    | true, some (ys, hs) => some (.lw (d + 10000 * (i + 1)) n :: ys, hs ++ [(d + 10000 * (i + 1), .row n t v.1)])
    | _, _ => none
  | i, x :: y :: r, v => match opnL s n d (i + 1) (y :: r) v.2 with | some (ys, hs) => some (enc x v.1 :: ys, hs) | none => none
def opn (s : TSt) (n d : Nat) : (sh : Sh) → sh.den → Option (TV × THp)
  | .own t, xs => match freeR d n s with | true => some (.lw d n, [(d, .row n t xs)]) | false => none
  | .tp l, x => match opnL s n d 0 l x with | some (ys, hs) => some (.tp ys, hs) | none => none
  | sh, x => some (enc sh x, [])

section
variable {α : Type}
/-- An answer of shape res. -/
def ansT (q : Bool) (c : CSpec) (d : Nat) (s : TSt) (x : Sh.denL c.sig) (k : TV → THp → Option α) : Option α :=
  match (q && c.res.owns) || !c.res.ans with
  | true => none
  | false => match c.tot with
    | true => match c.fn x with
      | some y => bnd y fun y => match opn s s.ctr d c.res y with | some (v, hs) => k v hs | none => none
      | none => none
    | false => bno (c.fn x) fun y => match opn s s.ctr d c.res y with | some (v, hs) => k v hs | none => none
/-- A call of function f: by what is known of it, and of arguments of just these shapes. -/
def callT (C : List CSpec) (q fz : Bool) (f : Nat) (args : TSt → List TV) (d : Nat) (s : TSt) (k : TV → THp → Option α) : Option α :=
  match C with
  | [] => none
  | c :: r =>
    match Nat.beq c.f f with
    | false => callT r q fz f args d s k
    | true =>
      match decL s.hp c.sig (args s) with
      | none => callT r q fz f args d s k
      | some x =>
        match c.res.plain || ((args s).flatMap rf).isEmpty with
        | true => ansT q c d s x k
        | false => match q || !fz with
          | true => none
          | false => match frzs s.hp ((args s).flatMap rf) with
            | none => none
            | some h1 => match decL (s.push h1).hp c.sig (args (s.push h1)), ((args (s.push h1)).flatMap rf).isEmpty with
              | some x, true => ansT q c d (s.push h1) x fun v hs => k v (hs ++ h1)
              | _, _ => none
end

/-! ### operations -/
section
variable {α : Type}

def cst : Value → TV
  | .int .i64 n => .i n
  | .int .u8 n => .u n
  | .bool b => .b b
  | .string s => .s s
  | .nilIface => .e .nil
  | .slice none 0 0 => .nl
  | x => .k x
def capsOf : TV → List TV
  | .fn _ caps => caps
  | _ => []
def nofn : TV → Bool
  | .tp _ | .fn _ _ => false
  | _ => true
def TSt.ev (s : TSt) : AOpd → TV
  | .t n => lv s.hp (look n .bot s.fr)
  | .c x => cst x
  | .f id => .fn id []

def binT (kd : Sc) (op : BinOp) (x y : TV) (k : TV → Option α) : Option α :=
  match kd, x, y with
  | .int, .i a, .i b =>
    match op with
    | .add => k (.i (wi (a + b)))
    | .sub => k (.i (wi (a - b)))
    | .mul => k (.i (wi (a * b)))
    | .quo => ck (decide (¬ b = 0)) (k (.i (wi (a.tdiv b))))
    | .rem => ck (decide (¬ b = 0)) (k (.i (a.tmod b)))
    | .eql => k (.b (decide (a = b)))
    | .neq => k (.b (decide (¬ a = b)))
    | .lss => k (.b (decide (a < b)))
    | .leq => k (.b (decide (a ≤ b)))
    | .gtr => k (.b (decide (b < a)))
    | .geq => k (.b (decide (b ≤ a)))
    | _ => none
  | .int, .u a, .u b =>
    match op with
    | .eql => k (.b (decide (a = b)))
    | .neq => k (.b (decide (¬ a = b)))
    | .lss => k (.b (decide (a < b)))
    | .leq => k (.b (decide (a ≤ b)))
    | .gtr => k (.b (decide (b < a)))
    | .geq => k (.b (decide (b ≤ a)))
    | _ => none
  | .str, .s a, .s b =>
    match op with
    | .add => ck (decide (a.size + b.size ≤ 9223372036854775807)) (k (.s (a ++ b)))
    | .eql => k (.b (decide (a = b)))
    | .neq => k (.b (decide (¬ a = b)))
    | .lss => k (.b (Op.bytesLess a.toList b.toList))
    | .leq => k (.b (Op.bytesLess a.toList b.toList || strEq a b))
    | .gtr => k (.b (!(Op.bytesLess a.toList b.toList || strEq a b)))
    | .geq => k (.b (!Op.bytesLess a.toList b.toList))
    | _ => none
  | .bool, .b a, .b b =>
    match op with
    | .eql => k (.b (decide (a = b)))
    | .neq => k (.b (decide (¬ a = b)))
    | _ => none
  | _, _, _ => none

def eq1 : Sc → TV → TV → Option Bool
  | .int, .i a, .i b => some (decide (a = b))
  | .bool, .b a, .b b => some (decide (a = b))
  | .str, .s a, .s b => some (decide (a = b))
  | _, _, _ => none
def eqT (cs ds : List TV) : List (Nat × Sc) → Option Bool
  | [] => some true
  | (off, s) :: r => match cs[off]?, ds[off]? with
    | some x, some y => (match eq1 s x y, eqT cs ds r with | some a, some b => some (a && b) | _, _ => none)
    | _, _ => none

def bndT (s : TSt) (n : Nat) (lo hi : Option AOpd) (k : Int → Int → Option α) : Option α :=
  match (match hi with | none => some (n : Int) | some x => dI (s.ev x)), (match lo with | none => some (0 : Int) | some x => dI (s.ev x)) with
  | some h, some l => ck (decide (0 ≤ l ∧ l ≤ h ∧ h ≤ n)) (k l h)
  | _, _ => none

def pickT (c : Bool) : TV → TV → Option TV
  | .b x, .b y => some (.b (match c with | true => x | false => y))
  | .i x, .i y => some (.i (match c with | true => x | false => y))
  | .s x, .s y => some (.s (match c with | true => x | false => y))
  | _, _ => none

/-- The elements of a slice. -/
def elemsT (t : Ty) (h : THp) (v : TV) : Option (List t.den) := dSl t (snapT h v)

def maxT (a b : Int) : Int := if b > a then b else a

def fillT (zero : List TV) : List (Nat × List TV) → Option (List TV)
  | [] => some zero
  | (off, cs) :: r => match Nat.ble (off + cs.length) zero.length with | true => fillT (ovw zero off cs) r | false => none

/-- Are all elements told? -/
def covB (n : Nat) (l : List Nat) : Bool := (List.range n).all fun i => l.any (Nat.beq i)
/-- A new row of these elements, which lead nowhere. -/
def bslT (q : Bool) (ty : Ty) (z : Nat) (zero : List Value) (len : Nat) (parts : List (Nat × AOpd)) (d : Nat) (s : TSt) (k : TV → THp → Option α) : Option α :=
  match freeR d s.ctr s, Nat.beq z ty.z && (exq q (zero.map cst) || covB len (parts.map (·.1))), unTv ty (zero.map cst),
    optAll (fun (p : Nat × AOpd) => match cellsT (s.ev p.2) with | some cs => (match exq q cs, unTv ty cs with | true, some x => some (p.1, x) | _, _ => none) | none => none) parts with
  | true, true, some z0, some ps => k (.lw d s.ctr) [(d, .row s.ctr ty (ps.foldl (fun es p => es.set p.1 p.2) (List.replicate len z0)))]
  | _, _, _, _ => none

/-- One operation: the value that it gives and what is new of the heap. -/
def top (C : List CSpec) (q : Bool) (ty : Ty) (o : AOp) (d : Nat) (s : TSt) (k : TV → THp → Option α) : Option α :=
  match o with
  | .mov x => k (s.ev x) []
  | .box x => match cellsT (s.ev x), freeV d s with
    | some cs, true => k (.pv d 0) [(d, .var cs)]
    | _, _ => none
  | .alloc zero => match freeV d s with | true => k (.pv d 0) [(d, .var (zero.map cst))] | false => none
  | .build zero parts =>
    match optAll (fun (p : Nat × Nat × AOpd) => match cellsT (s.ev p.2.2) with | some cs => (match Nat.beq cs.length p.2.1 with | true => some (p.1, cs) | false => none) | none => none) parts with
    | some ps => match fillT (zero.map cst) ps with | some cs => k (.ag cs) [] | none => none
    | none => none
  | .bslice _ z zero len parts =>
    match (parts.flatMap fun p => rf (s.ev p.2)) with
    | [] => bslT q ty z zero len parts d s k
    | rs => match q with
      | true => none
      | false => match frzs s.hp rs with
        | none => none
        | some h1 => match (parts.flatMap fun p => rf ((s.push h1).ev p.2)) with
          | [] => bslT q ty z zero len parts d (s.push h1) fun v hs => k v (hs ++ h1)
          | _ => none
  | .load n x => match s.ev x with
    | .ep t y off => match partT (tvs t y) off n with | some v => k v [] | none => none
    | .pv r off => match look r .gone s.hp with
      | .var cs => (match partT (cs.map (lv1 s.hp)) off n with | some v => k v [] | none => none)
      | _ => none
    | .pe r _ i off => match look r .gone s.hp with
      | .row _ t xs => bno xs[i]? fun y => (match partT (tvs t y) off n with | some v => k v [] | none => none)
      | _ => none
    | _ => none
  | .store z a x => match cellsT (s.ev x) with
    | some new => match Nat.beq new.length z with
      | true => match s.ev a with
        | .pv r off => (match look r .gone s.hp with
          | .var cs => (match Nat.ble (off + z) cs.length with | true => k .bot [(r, .var (ovw cs off new))] | false => none)
          | _ => none)
        | .pe r v i off => (match look r .gone s.hp with
          | .row _ t xs =>
            (match new.flatMap rf1 with
            | [] => bno xs[i]? fun y => (match Nat.ble (off + z) (tvs t y).length && exq q (ovw (tvs t y) off new), unTv t (ovw (tvs t y) off new) with | true, some y' => k .bot [(r, .row v t (xs.set i y'))] | _, _ => none)
            | _ => none)
          | _ => none)
        | _ => none
      | false => none
    | none => none
  | .chk x => match s.ev x with
    | .pv r off => k (.pv r off) []
    | .pe r v i off => k (.pe r v i off) []
    | .ep t y off => k (.ep t y off) []
    | .fn f caps => k (.fn f caps) []
    | _ => none
  | .bin kd op x y => binT kd op (s.ev x) (s.ev y) fun v => k v []
  | .eqa neg shape x y => match s.ev x, s.ev y with
    | .ag cs, .ag ds => (match eqT cs ds shape with | some r => k (.b (match neg with | true => !r | false => r)) [] | none => none)
    | _, _ => none
  | .eqn sl neg x => match sl, s.ev x with
    | true, .nl => k (.b (!neg)) []
    | true, .sl _ xs => ck (!xs.isEmpty) (k (.b neg) [])
    | true, .ns _ y => ck (match y with | some xs => !xs.isEmpty | none => true) (k (.b (match neg with | true => y.isSome | false => y.isNone)) [])
    | false, .e y => k (.b (match neg with | true => !y.isNil | false => y.isNil)) []
    | _, _ => none
  | .un op x => match op, s.ev x with
    | .neg, .i n => k (.i (wi (0 - n))) []
    | .not, .b b => k (.b (!b)) []
    | _, _ => none
  | .cvi kd x => match kd, s.ev x with
    | .i64, .i n => k (.i (wi n)) []
    | .i64, .u n => k (.i (wi n)) []
    | .u8, .i n => k (.u (IntKind.u8.wrap n)) []
    | .u8, .u n => k (.u (IntKind.u8.wrap n)) []
    | _, _ => none
  | .cvs x => match s.ev x with | .s b => k (.sl .u8 b.data.toList) [] | _ => none
  | .ifc t x => match Nat.beq t 1, s.ev x with
    | true, .i n => k (.e (.no n)) []
    | false, .bot => none
    | false, _ => (match q with | true => none | false => k (.e (.oth t)) [])
    | _, _ => none
  | .mkfn f caps => match (caps.map s.ev).all nofn with | true => k (.fn f (caps.map s.ev)) [] | false => none
  | .mksl z zero len cap => match freeR d s.ctr s, Nat.beq z ty.z && exq q (zero.map cst), unTv ty (zero.map cst), s.ev len, s.ev cap with
    | true, true, some z0, .i n, .i c => ck (decide (0 ≤ n ∧ n ≤ c ∧ c ≤ roomA)) (k (.lw d s.ctr) [(d, .row s.ctr ty (List.replicate n.toNat z0))])
    | _, _, _, _, _ => none
  | .slc z x lo hi => match z, s.ev x with
    | 0, .s b => bndT s b.size lo hi fun l h => k (.s (b.extract l.toNat h.toNat)) []
    | _ + 1, .nl => bndT s 0 lo hi fun _ _ => k .nl []
    | z + 1, .sl t xs => match Nat.beq (z + 1) t.z with | true => bndT s xs.length lo hi fun l h => k (.sl t ((xs.drop l.toNat).take (h.toNat - l.toNat))) [] | false => none
    | z + 1, .lw r v => match look r .gone s.hp with
      | .row _ t xs => match Nat.beq (z + 1) t.z with | true => bndT s xs.length lo hi fun l h => k (.ls r v l.toNat (h.toNat - l.toNat)) [] | false => none
      | _ => none
    | z + 1, .ls r v off len => match look r .gone s.hp with
      | .row _ t _ => match Nat.beq (z + 1) t.z with | true => bndT s len lo hi fun l h => k (.ls r v (off + l.toNat) (h.toNat - l.toNat)) [] | false => none
      | _ => none
    | _, _ => none
  | .fa off x => match s.ev x with
    | .pv r o => k (.pv r (o + off)) []
    | .pe r v i o => k (.pe r v i (o + off)) []
    | .ep t y o => k (.ep t y (o + off)) []
    | _ => none
  | .fld off n x => match s.ev x with | .ag cs => (match partT cs off n with | some v => k v [] | none => none) | _ => none
  | .ia z x i => match s.ev x, (match s.ev i with | .i n => some n | .u n => some n | _ => none) with
    | .sl t xs, some n => (match Nat.beq z t.z with | true => bno (lookI xs n) fun y => k (.ep t y 0) [] | false => none)
    | .lw r v, some n => (match look r .gone s.hp with
      | .row _ t xs => (match Nat.beq z t.z with | true => ck (decide (0 ≤ n ∧ n < xs.length)) (k (.pe r v n.toNat 0) []) | false => none)
      | _ => none)
    | .ls r v off len, some n => (match look r .gone s.hp with
      | .row _ t _ => (match Nat.beq z t.z with | true => ck (decide (0 ≤ n ∧ n < len)) (k (.pe r v (off + n.toNat) 0) []) | false => none)
      | _ => none)
    | _, _ => none
  | .ix x i => match s.ev x, (match s.ev i with | .i n => some n | .u n => some n | _ => none) with
    | .s b, some n => bno (lookI b.data.toList n) fun y => k (.u y.toNat) []
    | _, _ => none
  | .ext x i => match s.ev x with | .tp vs => (match vs[i]? with | some v => k v [] | none => none) | _ => none
  | .len str x => match str, s.ev x with
    | true, .s b => k (.i b.size) []
    | false, .nl => k (.i 0) []
    | false, .sl _ xs => k (.i xs.length) []
    | false, .lw r _ => (match look r .gone s.hp with | .row _ _ xs => k (.i xs.length) [] | _ => none)
    | false, .ls r _ _ n => (match look r .gone s.hp with | .row _ _ _ => k (.i n) [] | _ => none)
    | _, _ => none
  | .app z x y => match Nat.beq z ty.z, elemsT ty s.hp (s.ev y) with
    | true, some ys => (match s.ev x with
      | .nl => (match freeR d s.ctr s with
        | true => ck (decide (ys.length ≤ roomA)) (k (.lw d s.ctr) [(d, .row s.ctr ty ys)])
        | false => none)
      | .lw r _ => (match look r .gone s.hp, Nat.blt r 1000 && freeB r (.row s.ctr .int []) s with
        | .row _ t xs, true => (match castT ty (t := t) xs with
          | some xs => ck (decide (xs.length + ys.length ≤ roomA)) (k (.lw r s.ctr) [(r, .row s.ctr ty (xs ++ ys))])
          | none => none)
        | _, _ => none)
      | _ => none)
    | _, _ => none
  | .pick c a b => match s.ev c with
    | .b x => br x (k (s.ev a) []) (k (s.ev b) [])
    | _ => none
  | .max2 x y => match s.ev x, s.ev y with | .i a, .i b => k (.i (maxT a b)) [] | _, _ => none
  | .call _ muts f args => match muts with | [] => callT C q true f (fun s => args.map s.ev) d s k | _ => none
  | .calld _ x args => match s.ev x with | .fn f _ => callT C q false f (fun s => args.map s.ev ++ capsOf (s.ev x)) d s k | _ => none

def TSt.done (s : TSt) (d : Option Nat) (v : TV) (hs : THp) : TSt := (s.push hs).putO d v

/-- An operation's guard: its slot then holds what it holds on that way. -/
def tops (C : List CSpec) (q : Bool) : List AOper → List Ty → TSt → (TSt → Option α) → Option α
  | [], _, s, k => k s
  | ⟨d, op, none, _⟩ :: r, tys, s, k => top C q (tys.headD .int) op (d.getD 0) s fun v hs => tops C q r tys.tail (s.done d v hs) k
  | ⟨d, op, some (t, want), _⟩ :: r, tys, s, k =>
    match s.ev (.t t) with
    | .ud => tops C q r tys.tail (s.putO d .ud) k
    | .b x =>
      br x
        (match want with
        | true => top C q (tys.headD .int) op (d.getD 0) (s.put t (.b true)) fun v hs => tops C q r tys.tail ((s.put t (.b true)).done d v hs) k
        | false => tops C q r tys.tail ((s.put t (.b true)).putO d .ud) k)
        (match want with
        | false => top C q (tys.headD .int) op (d.getD 0) (s.put t (.b false)) fun v hs => tops C q r tys.tail ((s.put t (.b false)).done d v hs) k
        | true => tops C q r tys.tail ((s.put t (.b false)).putO d .ud) k)
    | _ => none
end

/-! ### what changes in a loop, or on two ways -/

inductive CK where
  | sh (x : Sh)
  | row (s : Nat) (t : Ty)
  deriving Inhabited
inductive MK where
  | slot (k : Nat) (sh : Sh)
  | row (k s : Nat) (t : Ty)
  | rowH (s : Nat) (t : Ty)
  | var (s : Nat) (cs : List CK)
  deriving Inhabited
@[reducible] def CK.den : CK → Type
  | .sh x => x.den
  | .row _ t => List t.den
@[reducible] def CK.denL : List CK → Type
  | [] => Unit
  | [x] => x.den
  | x :: y :: r => x.den × CK.denL (y :: r)
@[reducible] def MK.den : MK → Type
  | .slot _ sh => sh.den
  | .row _ _ t => List t.den
  | .rowH _ t => List t.den
  | .var _ cs => CK.denL cs
@[reducible] def MK.denL : List MK → Type
  | [] => Unit
  | [x] => x.den
  | x :: y :: r => x.den × MK.denL (y :: r)

/-- The whole of row s, or a nil slice in its place. -/
def pRow (h : THp) (s : Nat) (t : Ty) (v : TV) : Option (List t.den) :=
  match v with
  | .nl => match isGone (look s .gone h), Nat.blt s 1000 with | true, true => some [] | _, _ => none
  | .lw s' _ => match Nat.beq s s', look s .gone h with | true, .row _ _ xs => castT t xs | _, _ => none
  | _ => none
def pCK (h : THp) : (c : CK) → TV → Option c.den
  | .sh x, v => dec [] x v
  | .row s t, v => pRow h s t v
def pCKs (h : THp) : (l : List CK) → List TV → Option (CK.denL l)
  | [], [] => some ()
  | [x], [v] => pCK h x v
  | x :: y :: r, v :: vs => match pCK h x v, pCKs h (y :: r) vs with | some a, some b => some (a, b) | _, _ => none
  | _, _ => none
def verOf (s : Nat) (h : THp) : Option Nat := match look s .gone h with | .row v _ _ => some v | _ => none
def eqVer : Option Nat → Option Nat → Bool
  | some a, some b => Nat.beq a b
  | _, _ => false
def pMK (s0 s : TSt) : (m : MK) → Option m.den
  | .slot k sh => dec [] sh (s.ev (.t k))
  | .row k r t => pRow s.hp r t (s.ev (.t k))
  | .rowH r t => match look r .gone s.hp, eqVer (verOf r s0.hp) (verOf r s.hp) with | .row _ _ xs, true => castT t xs | _, _ => none
  | .var r cs => match look r .gone s.hp with | .var vs => pCKs s.hp cs (vs.map (lv1 s.hp)) | _ => none
def pMKs (s0 s : TSt) : (l : List MK) → Option (MK.denL l)
  | [] => some ()
  | [x] => pMK s0 s x
  | x :: y :: r => match pMK s0 s x, pMKs s0 s (y :: r) with | some a, some b => some (a, b) | _, _ => none

def iCK (n : Nat) : (c : CK) → c.den → TV × THp
  | .sh x, v => (enc x v, [])
  | .row s t, v => (.lw s n, [(s, .row n t v)])
def iCKs (n : Nat) : (l : List CK) → CK.denL l → List TV × THp
  | [], _ => ([], [])
  | [x], v => ([(iCK n x v).1], (iCK n x v).2)
  | x :: y :: r, v => ((iCK n x v.1).1 :: (iCKs n (y :: r) v.2).1, (iCK n x v.1).2 ++ (iCKs n (y :: r) v.2).2)
def iMK (n : Nat) (h0 : THp) : (m : MK) → m.den → List (Nat × TV) × THp
  | .slot k sh, v => ([(k, enc sh v)], [])
  | .row k s t, v => ([(k, .lw s n)], [(s, .row n t v)])
  | .rowH s t, v => ([], [(s, .row ((verOf s h0).getD 0) t v)])
  | .var s cs, v => ([], (s, .var (iCKs n cs v).1) :: (iCKs n cs v).2)
def iMKs (n : Nat) (h0 : THp) : (l : List MK) → MK.denL l → List (Nat × TV) × THp
  | [], _ => ([], [])
  | [x], v => iMK n h0 x v
  | x :: y :: r, v => ((iMK n h0 x v.1).1 ++ (iMKs n h0 (y :: r) v.2).1, (iMK n h0 x v.1).2 ++ (iMKs n h0 (y :: r) v.2).2)

/-- What changes: kinds; slots and rows that are dropped; rows that are written no more from there on. -/
structure Mods where
  ks : List MK
  w : List Nat
  wh : List Nat
  fz : List Nat
  deriving Inhabited
/-- The state behind it. -/
def inj (m : Mods) (s0 : TSt) (x : MK.denL m.ks) : TSt :=
  { fr := (iMKs s0.ctr s0.hp m.ks x).1 ++ (m.w.map fun k => (k, TV.bot)) ++ s0.fr, hp := (iMKs s0.ctr s0.hp m.ks x).2 ++ (m.wh.map fun k => (k, TB.gone)) ++ s0.hp, ctr := s0.ctr + 1 }
def ksF : List MK → List Nat
  | [] => []
  | .slot k _ :: r => k :: ksF r
  | .row k _ _ :: r => k :: ksF r
  | _ :: r => ksF r
def ckH : List CK → List Nat
  | [] => []
  | .row s _ :: r => s :: ckH r
  | _ :: r => ckH r
def ksH : List MK → List Nat
  | [] => []
  | .slot _ _ :: r => ksH r
  | .row _ s _ :: r => s :: ksH r
  | .rowH s _ :: r => s :: ksH r
  | .var s cs :: r => s :: (ckH cs ++ ksH r)
def memN (k : Nat) : List Nat → Bool
  | [] => false
  | a :: r => match Nat.beq a k with | true => true | false => memN k r
def subN (l m : List Nat) : Bool := l.all fun k => memN k m
def dis1 : List Nat → Bool
  | [] => true
  | a :: r => !memN a r && dis1 r
/-- All that has changed since s0 is told. -/
def okK (s0 : TSt) (n : Nat) : MK → Bool
  | .slot _ _ => true
  | .row _ s _ => freeB s (.row n .int []) s0
  | .rowH _ _ => true
  | .var _ cs => (ckH cs).all fun s => freeB s (.row n .int []) s0
def okH (m : Mods) (s0 : TSt) : Bool := m.ks.all (okK s0 s0.ctr)
def told (m : Mods) (s0 s : TSt) : Bool :=
  okH m s0 && (
  subN ((s.fr.take (s.fr.length - s0.fr.length)).map (·.1)) (ksF m.ks ++ m.w) && (subN ((s.hp.take (s.hp.length - s0.hp.length)).map (·.1)) (ksH m.ks ++ m.wh) && dis1 (ksH m.ks ++ m.wh)) && dis1 (ksF m.ks ++ m.w))
def TSt.frzS (s : TSt) (l : List Nat) : Option TSt := match frzs s.hp l with | some h => some (s.push h) | none => none
def proj (m : Mods) (s0 s : TSt) : Option (MK.denL m.ks) :=
  match s.frzS m.fz with
  | some s => match told m s0 s with | true => pMKs s0 s m.ks | false => none
  | none => none

/-! ### code -/

inductive TCode where
  | skip
  | region (ops : List AOper) (tys : List Ty) (draw : Bool)
  | regionJ (m : Mods) (ops : List AOper) (tys : List Ty) (draw : Bool)
  | seq (a b : TCode)
  | cond (c : AOpd) (a b : TCode)
  | condJ (m : Mods) (c : AOpd) (a b : TCode)
  | block (id : Nat) (b : TCode)
  | blockJ (m : Mods) (id : Nat) (b : TCode)
  | loop (m : Mods) (id : Nat) (b : TCode)
  | exit (id : Nat)
  | ret
  deriving Inhabited
def TCode.er : TCode → ACode
  | .skip => .skip
  | .region ops _ dr => .region ops dr
  | .regionJ _ ops _ dr => .region ops dr
  | .seq a b => .seq a.er b.er
  | .cond c a b => .cond c a.er b.er
  | .condJ _ c a b => .cond c a.er b.er
  | .block id b => .block id b.er
  | .blockJ _ id b => .block id b.er
  | .loop _ id b => .block id (.loop b.er)
  | .exit id => .exit id
  | .ret => .ret

noncomputable def run (C : List CSpec) : TCode → {α : Type} → TSt → (AExit → TSt → Option α) → Option α
  | .skip, _, s, k => k .norm s
  | .region ops tys dr, _, s, k => tops C dr ops tys s fun s => k .norm s
  | .regionJ m ops tys dr, α, s, k => jn (tops C dr ops tys s fun s' => (inlO (proj m s s') : Option (Sum (MK.denL m.ks) α))) fun x => k .norm (inj m s x)
  | .seq a b, _, s, k => run C a s fun e s => match e with | .norm => run C b s k | e => k e s
  | .cond c a b, _, s, k => match s.ev c with | .b x => br x (run C a s k) (run C b s k) | _ => none
  | .condJ m c a b, α, s, k =>
    match s.ev c with
    | .b x => jn (br x
        (run C a s fun e s' => match e with | .norm => (inlO (proj m s s') : Option (Sum (MK.denL m.ks) α)) | e => inrO (k e s'))
        (run C b s fun e s' => match e with | .norm => (inlO (proj m s s') : Option (Sum (MK.denL m.ks) α)) | e => inrO (k e s')))
        fun x => k .norm (inj m s x)
    | _ => none
  | .block id b, _, s, k => run C b s fun e s => match e with | .exit i => (match Nat.beq i id with | true => k .norm s | false => k (.exit i) s) | e => k e s
  | .blockJ m id b, α, s, k => jn (run C b s fun e s' => match e with
      | .norm => (inlO (proj m s s') : Option (Sum (MK.denL m.ks) α))
      | .exit i => (match Nat.beq i id with | true => inlO (proj m s s') | false => inrO (k (.exit i) s'))
      | .ret => inrO (k .ret s')) fun x => k .norm (inj m s x)
  | .loop m id b, α, s, k =>
    match proj m s s with
    | none => none
    | some x0 => lp (fun x => run C b (inj m s x) fun e s' => match e with
        | .norm => (nxO (proj m s s') : Option (LR (MK.denL m.ks) α))
        | .exit i => (match Nat.beq i id with | true => dnO (proj m s s') | false => finO (k (.exit i) s'))
        | .ret => finO (k .ret s')) x0 fun x => k .norm (inj m s x)
  | .exit id, _, s, k => k (.exit id) s
  | .ret, _, s, k => k .ret s

/-! ### functions -/

/-- A function's begin: its arguments in its first slots. -/
def frT : Nat → List TV → List (Nat × TV)
  | _, [] => []
  | i, x :: r => (i, x) :: frT (i + 1) r
def enterT (sig : List Sh) (x : Sh.denL sig) : TSt := { fr := frT 0 (encL sig x), hp := [], ctr := 1 }
def resT (s : TSt) : ARes → Option TV
  | .tmp t => some (s.ev (.t t))
  | .cell t n => match s.ev (.t t) with
    | .ep t' y off => partT (tvs t' y) off n
    | .pv r off => (match look r .gone s.hp with | .var cs => partT (cs.map (lv1 s.hp)) off n | _ => none)
    | .pe r _ i off => (match look r .gone s.hp with | .row _ t' xs => (match xs[i]? with | some y => partT (tvs t' y) off n | none => none) | _ => none)
    | _ => none
/-- One part of an answer; own: fresh slices are handed out. -/
def exp1 (own : Bool) (h : THp) : (sh : Sh) → TV → Option sh.den
  | .own t, v => match own with
    | true => (match v with
      | .lw s _ => (match Nat.blt s 1000, look s .gone h with | true, .row _ _ xs => castT t xs | _, _ => none)
      | .nl => some []
      | _ => none)
    | false => none
  | sh, v => match own with
    | true => dec [] sh v
    | false => dec h sh v
def expL (own : Bool) (h : THp) : (l : List Sh) → List TV → Option (Sh.denL l)
  | [], [] => some ()
  | [x], [v] => exp1 own h x v
  | x :: y :: r, v :: vs => match exp1 own h x v, expL own h (y :: r) vs with | some a, some b => some (a, b) | _, _ => none
  | _, _ => none
def expT (own : Bool) (h : THp) : (sh : Sh) → List TV → Option sh.den
  | .tp l, vs => match vs with | _ :: _ :: _ => expL own h l vs | _ => none
  | .unit, vs => match vs with | [] => some () | _ => none
  | sh, vs => match vs with | [v] => exp1 own h sh v | _ => none
/-- Shapes that arguments have. -/
def Sh.arg : Sh → Bool
  | .own _ | .tp _ | .unit => false
  | .fnc _ caps => caps.all fun s => s.ans1 && !s.own1
  | _ => true
structure TFunc where
  np : Nat
  nt : Nat
  res : List ARes
  own : Bool
  body : TCode
  deriving Inhabited
def TFunc.er (f : TFunc) : AFunc := { np := f.np, nt := f.nt, res := f.res, muts := [], own := f.own, body := f.body.er }
noncomputable def TFunc.run (C : List CSpec) (f : TFunc) (sig : List Sh) (rs : Sh) (x : Sh.denL sig) : Option rs.den :=
  Ab.run C f.body (enterT sig x) fun e s => match e with
    | .exit _ => none
    | _ => match optAll (resT s) f.res with | some vs => (match !f.own || nodupB (vs.flatMap rf) with | true => expT f.own s.hp rs vs | false => none) | none => none
end Ab
