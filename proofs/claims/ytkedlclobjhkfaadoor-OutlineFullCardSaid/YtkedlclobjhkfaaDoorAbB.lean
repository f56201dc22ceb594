/-
  The abstract machine's runs: calls by contract, operations in a row, code; and the rules by which a run is shown.
-/
import Derived.Test.YtkedlclobjhkfaaDoorAbA
namespace Ab
open Go

/-- What functions answer: 'ret f args r outs': called with these the function f gives r, and what it was handed to write holds outs. 'cv st st1': where st tells the truth st1 does, too. -/
structure Rets where
  ret : Nat → List AV → AV → List (List (List AV)) → Prop
  cv : ASt → ASt → Prop

inductive ARes where
  | tmp (t : Nat)
  | cell (t : Nat) (n : Option Nat)
  deriving Inhabited

structure AFunc where
  np : Nat
  nt : Nat
  res : List ARes
  muts : List Nat := []
  own : Bool := false
  body : ACode
  deriving Inhabited

/-! ### calls -/

def passArgs (hp : Nat → Option Blk) (muts : List Nat) : Nat → List AV → Option (List AV)
  | _, [] => some []
  | i, x :: r =>
    match (if muts.contains i then
        (match x with
          | .lsl s z 0 n => (match hp s with | some (.arr z' es) => if z = z' ∧ n = es.length then some (.own z es) else none | _ => none)
          | _ => none)
      else if muts.isEmpty then snap hp x else if x.refs.isEmpty then some x else none), passArgs hp muts (i + 1) r with
    | some y, some ys => some (y :: ys)
    | _, _ => none

/-- The rows that a call may write: by the arguments' places. -/
def mutSites (muts : List Nat) : Nat → List AV → List Nat
  | _, [] => []
  | i, x :: r => (if muts.contains i then (match x with | .lsl s _ _ _ => [s] | _ => []) else []) ++ mutSites muts (i + 1) r

def nodupB : List Nat → Bool
  | [] => true
  | x :: r => !r.contains x && nodupB r

def setOuts (st : ASt) : List Nat → List (List (List AV)) → Option ASt
  | [], [] => some st
  | s :: ss, es :: r => match st.hp s with | some (.arr z _) => setOuts (st.setH s (some (.arr z es))) ss r | _ => none
  | _, _ => none

/-- What a call hands back comes into the caller: a fresh slice is a row of its own. -/
def impL (d : Nat) : Nat → List AV → ASt → Option (List AV × ASt)
  | _, [], st => some ([], st)
  | i, .own z es :: r, st =>
    match st.hp (d + 10000 * (i + 1)), impL d (i + 1) r (st.setH (d + 10000 * (i + 1)) (some (.arr z es))) with
    | none, some (ys, st') => some (.lsl (d + 10000 * (i + 1)) z 0 es.length :: ys, st')
    | _, _ => none
  | i, x :: r, st => match impL d (i + 1) r st with | some (ys, st') => some (x :: ys, st') | none => none
def imp (d : Nat) (r : AV) (st : ASt) : Option (AV × ASt) :=
  match r with
  | .own z es => match st.hp d with | none => some (.lsl d z 0 es.length, st.setH d (some (.arr z es))) | some _ => none
  | .tup vs => match impL d 0 vs st with | some (ys, st') => some (.tup ys, st') | none => none
  | r => some (r, st)

def isArr (hp : Nat → Option Blk) (s : Nat) : Bool := match hp s with | some (.arr _ _) => true | _ => false

/-- What becomes of the rows that a call's arguments refer to: where the answer may refer to them they are written no more. -/
def settle (frz : Bool) (refs : List Nat) (r : AV) (st : ASt) : Option ASt :=
  if r.plain = true ∨ refs = [] then some st else if frz = true ∧ refs.all (isArr st.hp) = true then some (st.freezeL refs) else none

/-- A call by contract: its arguments, its answer, the state behind it. -/
def CallR (M : Rets) (frz : Bool) (muts : List Nat) (f : Nat) (args : List AV) (d : Nat) (st : ASt) (v : AV) (st' : ASt) : Prop :=
  ∃ args' r outs st1 st2, passArgs st.hp muts 0 args = some args' ∧ nodupB (mutSites muts 0 args) = true ∧ M.ret f args' r outs ∧
    settle frz (if muts.isEmpty then AV.refsL args else []) r st = some st1 ∧ setOuts st1 (mutSites muts 0 args) outs = some st2 ∧ imp d r st2 = some (v, st')

/-- No fresh slice among an answer's parts. -/
def isOwn : AV → Bool
  | .own _ _ => true
  | _ => false
def noOwn : AV → Bool
  | .own _ _ => false
  | .tup vs => vs.all fun x => !isOwn x
  | _ => true
/-- A call that leaves the caller's memory as it was. -/
def CallQ (M : Rets) (f : Nat) (args : List AV) (st : ASt) (v : AV) : Prop :=
  ∃ args', passArgs st.hp [] 0 args = some args' ∧ M.ret f args' v [] ∧ (v.plain = true ∨ AV.refsL args = []) ∧ noOwn v = true

/-- q: in a region whose order is drawn: its calls leave the caller's memory as it was. -/
def StepR (M : Rets) (q : Bool) (o : AOp) (d : Nat) (st : ASt) (v : AV) (st' : ASt) : Prop :=
  match o with
  | .call frz muts f args => if q = true then muts = [] ∧ st' = st ∧ CallQ M f (args.map st.ev) st v else CallR M frz muts f (args.map st.ev) d st v st'
  | .calld frz x args => match st.ev x with | .fn f caps => (if q = true then st' = st ∧ CallQ M f (args.map st.ev ++ caps) st v else CallR M frz [] f (args.map st.ev ++ caps) d st v st') | _ => False
  | o => aop o d st = some (v, st')

/-- What an operation that its guard passes by leaves in its slot. -/
def ud : AV := .v (.tuple #[])
def gval (st : ASt) : Option (Nat × Bool) → Option Bool
  | none => some true
  | some (t, want) => match st.fr t with | .v (.bool b) => some (b == want) | .v (.tuple _) => some false | _ => none

/-- One operation: it runs, or its guard passes it by. -/
def OpR (M : Rets) (q : Bool) (o : AOper) (st st' : ASt) : Prop :=
  (gval st o.grd = some true ∧ ∃ v st1, StepR M q o.op (o.dst.getD 0) st v st1 ∧ st' = st1.putO o.dst v) ∨
  (gval st o.grd = some false ∧ st' = st.putO o.dst ud)

inductive OpsR (M : Rets) (q : Bool) : List AOper → ASt → ASt → Prop
  | nil (st : ASt) : OpsR M q [] st st
  | cons {o : AOper} {r : List AOper} {st st1 st2 : ASt} : OpR M q o st st1 → OpsR M q r st1 st2 → OpsR M q (o :: r) st st2
  | cv {r : List AOper} {st st1 st2 : ASt} : q = false → M.cv st st1 → OpsR M q r st1 st2 → OpsR M q r st st2

inductive Ex (M : Rets) : ACode → ASt → AExit → ASt → Prop
  | skip (st : ASt) : Ex M .skip st .norm st
  | region {ops : List AOper} {dr : Bool} {st st' : ASt} : OpsR M dr ops st st' → Ex M (.region ops dr) st .norm st'
  | seqN {a b : ACode} {st st1 st2 : ASt} {e : AExit} : Ex M a st .norm st1 → Ex M b st1 e st2 → Ex M (.seq a b) st e st2
  | seqE {a b : ACode} {st st1 : ASt} {e : AExit} : Ex M a st e st1 → e ≠ .norm → Ex M (.seq a b) st e st1
  | cond {c : AOpd} {a b : ACode} {st st' : ASt} {e : AExit} {t : Bool} : st.ev c = .v (.bool t) → Ex M (if t then a else b) st e st' → Ex M (.cond c a b) st e st'
  | blockX {id : Nat} {b : ACode} {st st' : ASt} : Ex M b st (.exit id) st' → Ex M (.block id b) st .norm st'
  | blockO {id : Nat} {b : ACode} {st st' : ASt} {e : AExit} : Ex M b st e st' → e ≠ .exit id → Ex M (.block id b) st e st'
  | loopN {b : ACode} {st st1 st2 : ASt} {e : AExit} : Ex M b st .norm st1 → Ex M (.loop b) st1 e st2 → Ex M (.loop b) st e st2
  | loopE {b : ACode} {st st1 : ASt} {e : AExit} : Ex M b st e st1 → e ≠ .norm → Ex M (.loop b) st e st1
  | exit (id : Nat) (st : ASt) : Ex M (.exit id) st (.exit id) st
  | ret (st : ASt) : Ex M .ret st .ret st
  | cv {c : ACode} {st st1 st' : ASt} {e : AExit} : M.cv st st1 → Ex M c st1 e st' → Ex M c st e st'
  | cvR {c : ACode} {st st1 st' : ASt} {e : AExit} : Ex M c st e st1 → M.cv st1 st' → Ex M c st e st'

/-! ### functions -/

def enterFr : Nat → List AV → Nat → AV
  | _, [] => fun _ => .bot
  | i, x :: r => upd (enterFr (i + 1) r) i (match x with | .own z es => .lsl (1000 + i) z 0 es.length | x => x)
def enterHp : Nat → List AV → Nat → Option Blk
  | _, [] => fun _ => none
  | i, x :: r => match x with | .own z es => upd (enterHp (i + 1) r) (1000 + i) (some (.arr z es)) | _ => enterHp (i + 1) r
def enter (args : List AV) : ASt := { fr := enterFr 0 args, hp := enterHp 0 args }

def resVal (st : ASt) : ARes → Option AV
  | .tmp t => some (st.fr t)
  | .cell t n => match cellsAt st.hp (st.fr t) with | some (cs, off) => partA cs off n | none => none

/-- The answer of a function that hands fresh slices out. -/
def expOwn (st : ASt) : AV → Option AV
  | .lsl s z 0 n => match st.hp s with | some (.arr z' es) => if z = z' ∧ n = es.length ∧ s < 1000 then some (.own z es) else none | _ => none
  | x => if x.refs.isEmpty then some x else none
def oneOrTup : List AV → AV
  | [x] => x
  | l => .tup l
def outsOf (st : ASt) (muts : List Nat) : Option (List (List (List AV))) :=
  optAll (fun i => match st.hp (1000 + i) with | some (.arr _ es) => some es | _ => none) muts
def export_ (own : Bool) (muts : List Nat) (res : List ARes) (st : ASt) : Option (AV × List (List (List AV))) :=
  match optAll (resVal st) res with
  | some rs =>
    if own = true then
      (if nodupB (AV.refsL rs) = true ∧ muts = [] then (match optAll (expOwn st) rs with | some ys => some (oneOrTup ys, []) | none => none) else none)
    else if muts = [] then (match optAll (snap2 st.hp) rs with | some ys => some (oneOrTup ys, []) | none => none)
    else if AV.refsL rs = [] then (match outsOf st muts with | some outs => some (oneOrTup rs, outs) | none => none)
    else none
  | none => none

/-- The arguments fit the function: as many, and just those are handed to be written that it writes. -/
def argsFit (muts : List Nat) : Nat → List AV → Bool
  | _, [] => true
  | i, x :: r => (isOwn x == muts.contains i) && argsFit muts (i + 1) r

def BodyR (M : Rets) (fn : AFunc) (args : List AV) (r : AV) (outs : List (List (List AV))) : Prop :=
  args.length = fn.np ∧ argsFit fn.muts 0 args = true ∧ ∃ e st', Ex M fn.body (enter args) e st' ∧ (e = .norm ∨ e = .ret) ∧ export_ fn.own fn.muts fn.res st' = some (r, outs)

/-- The functions of the table G answer as their code says. -/
def Ok (G : Nat → Option AFunc) (M : Rets) : Prop := ∀ f fn args r outs, G f = some fn → BodyR M fn args r outs → M.ret f args r outs

theorem noOwn_plain {r : AV} (h : r.plain = true) : noOwn r = true := by
  cases r with
  | own z es => simp [AV.plain] at h
  | tup vs =>
    simp only [AV.plain] at h
    refine List.all_eq_true.2 fun x hx => ?_
    have := List.all_eq_true.1 h x hx
    cases x <;> simp_all [AV.plain2, isOwn]
  | _ => rfl
theorem impL_quiet (d : Nat) : ∀ (i : Nat) (vs : List AV) (st : ASt), (vs.all fun x => !isOwn x) = true → impL d i vs st = some (vs, st)
  | _, [], _, _ => rfl
  | i, x :: r, st, h => by
    simp only [List.all_cons, Bool.and_eq_true] at h
    have ih := impL_quiet d (i + 1) r st h.2
    have hx := h.1
    cases x <;> simp_all [impL, isOwn]
theorem imp_quiet {r : AV} (h : noOwn r = true) (d : Nat) (st : ASt) : imp d r st = some (r, st) := by
  cases r with
  | tup vs => simp only [imp]; rw [impL_quiet d 0 vs st h]
  | own z es => simp [noOwn] at h
  | _ => rfl
theorem imp_plain {r : AV} (h : r.plain = true) (d : Nat) (st : ASt) : imp d r st = some (r, st) := imp_quiet (noOwn_plain h) d st
theorem CallQ.loud {M : Rets} {frz : Bool} {f : Nat} {args : List AV} {d : Nat} {st : ASt} {v : AV} (h : CallQ M f args st v) : CallR M frz [] f args d st v st := by
  obtain ⟨args', h1, h2, h3, h4⟩ := h
  have hm : ∀ (i : Nat) (l : List AV), mutSites [] i l = [] := by
    intro i l
    induction l generalizing i with
    | nil => rfl
    | cons x r ih => simp [mutSites, ih (i + 1)]
  refine ⟨args', v, [], st, st, h1, by rw [hm]; rfl, h2, ?_, by rw [hm]; rfl, imp_quiet h4 d st⟩
  simp only [settle, List.isEmpty_nil, if_true]
  rw [if_pos h3]

theorem mem_refsL {l : List AV} {s : Nat} : s ∈ AV.refsL l ↔ ∃ x ∈ l, s ∈ x.refs := by
  induction l with
  | nil => simp [AV.refsL]
  | cons a r ih => simp [AV.refsL, ih]
def Blk.refs : Blk → List Nat
  | .var cs => AV.refsL cs
  | .arr _ _ => []

end Ab
