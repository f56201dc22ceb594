/-
  The abstract machine's runs: calls by contract, operations in a row, code; and the rules by which a run is shown.
-/
import Derived.Test.YtkedlclobjhkfaaAbA
namespace Ab
open Go

/-- What functions answer: 'ret f args r outs': called with these the function f gives r, and what it was handed to write holds outs. -/
structure Rets where
  ret : Nat → List AV → AV → List (List (List AV)) → Prop

inductive ARes where
  | tmp (t : Nat)
  | cell (t : Nat) (n : Option Nat)
  deriving Inhabited

structure AFunc where
  np : Nat
  nt : Nat
  res : List ARes
  muts : List Nat := []
  own : Bool := false
  body : ACode
  deriving Inhabited

/-! ### calls -/

def passArgs (hp : Nat → Option Blk) (muts : List Nat) : Nat → List AV → Option (List AV)
  | _, [] => some []
  | i, x :: r =>
    match (if muts.contains i then
        (match x with
          | .lsl s z 0 n => (match hp s with | some (.arr z' es) => if z = z' ∧ n = es.length then some (.own z es) else none | _ => none)
          | _ => none)
      else if muts.isEmpty then snap hp x else if x.refs.isEmpty then some x else none), passArgs hp muts (i + 1) r with
    | some y, some ys => some (y :: ys)
    | _, _ => none

/-- The rows that a call may write: by the arguments' places. -/
def mutSites (muts : List Nat) : Nat → List AV → List Nat
  | _, [] => []
  | i, x :: r => (if muts.contains i then (match x with | .lsl s _ _ _ => [s] | _ => []) else []) ++ mutSites muts (i + 1) r

def nodupB : List Nat → Bool
  | [] => true
  | x :: r => !r.contains x && nodupB r

def setOuts (st : ASt) : List Nat → List (List (List AV)) → Option ASt
  | [], [] => some st
  | s :: ss, es :: r => match st.hp s with | some (.arr z _) => setOuts (st.setH s (some (.arr z es))) ss r | _ => none
  | _, _ => none

/-- What a call hands back comes into the caller: a fresh slice is a row of its own. -/
def impL (d : Nat) : Nat → List AV → ASt → Option (List AV × ASt)
  | _, [], st => some ([], st)
  | i, .own z es :: r, st =>
    match st.hp (d + 10000 * (i + 1)), impL d (i + 1) r (st.setH (d + 10000 * (i + 1)) (some (.arr z es))) with
    | none, some (ys, st') => some (.lsl (d + 10000 * (i + 1)) z 0 es.length :: ys, st')
    | _, _ => none
  | i, x :: r, st => match impL d (i + 1) r st with | some (ys, st') => some (x :: ys, st') | none => none
def imp (d : Nat) (r : AV) (st : ASt) : Option (AV × ASt) :=
  match r with
  | .own z es => match st.hp d with | none => some (.lsl d z 0 es.length, st.setH d (some (.arr z es))) | some _ => none
  | .tup vs => match impL d 0 vs st with | some (ys, st') => some (.tup ys, st') | none => none
  | r => some (r, st)

def isArr (hp : Nat → Option Blk) (s : Nat) : Bool := match hp s with | some (.arr _ _) => true | _ => false

/-- What becomes of the rows that a call's arguments refer to: where the answer may refer to them they are written no more. -/
def settle (frz : Bool) (refs : List Nat) (r : AV) (st : ASt) : Option ASt :=
  if r.plain = true ∨ refs = [] then some st else if frz = true ∧ refs.all (isArr st.hp) = true then some (st.freezeL refs) else none

/-- A call by contract: its arguments, its answer, the state behind it. -/
def CallR (M : Rets) (frz : Bool) (muts : List Nat) (f : Nat) (args : List AV) (d : Nat) (st : ASt) (v : AV) (st' : ASt) : Prop :=
  ∃ args' r outs st1 st2, passArgs st.hp muts 0 args = some args' ∧ nodupB (mutSites muts 0 args) = true ∧ M.ret f args' r outs ∧
    settle frz (if muts.isEmpty then AV.refsL args else []) r st = some st1 ∧ setOuts st1 (mutSites muts 0 args) outs = some st2 ∧ imp d r st2 = some (v, st')

/-- No fresh slice among an answer's parts. -/
def isOwn : AV → Bool
  | .own _ _ => true
  | _ => false
def noOwn : AV → Bool
  | .own _ _ => false
  | .tup vs => vs.all fun x => !isOwn x
  | _ => true
/-- A call that leaves the caller's memory as it was. -/
def CallQ (M : Rets) (f : Nat) (args : List AV) (st : ASt) (v : AV) : Prop :=
  ∃ args', passArgs st.hp [] 0 args = some args' ∧ M.ret f args' v [] ∧ (v.plain = true ∨ AV.refsL args = []) ∧ noOwn v = true

/-- q: in a region whose order is drawn: its calls leave the caller's memory as it was. -/
def StepR (M : Rets) (q : Bool) (o : AOp) (d : Nat) (st : ASt) (v : AV) (st' : ASt) : Prop :=
  match o with
  | .call frz muts f args => if q = true then muts = [] ∧ st' = st ∧ CallQ M f (args.map st.ev) st v else CallR M frz muts f (args.map st.ev) d st v st'
  | .calld frz x args => match st.ev x with | .fn f caps => (if q = true then st' = st ∧ CallQ M f (args.map st.ev ++ caps) st v else CallR M frz [] f (args.map st.ev ++ caps) d st v st') | _ => False
  | o => aop o d st = some (v, st')

/-- What an operation that its guard passes by leaves in its slot. -/
def ud : AV := .v (.tuple #[])
def gval (st : ASt) : Option (Nat × Bool) → Option Bool
  | none => some true
  | some (t, want) => match st.fr t with | .v (.bool b) => some (b == want) | .v (.tuple _) => some false | _ => none

/-- One operation: it runs, or its guard passes it by. -/
def OpR (M : Rets) (q : Bool) (o : AOper) (st st' : ASt) : Prop :=
  (gval st o.grd = some true ∧ ∃ v st1, StepR M q o.op (o.dst.getD 0) st v st1 ∧ st' = st1.putO o.dst v) ∨
  (gval st o.grd = some false ∧ st' = st.putO o.dst ud)

inductive OpsR (M : Rets) (q : Bool) : List AOper → ASt → ASt → Prop
  | nil (st : ASt) : OpsR M q [] st st
  | cons {o : AOper} {r : List AOper} {st st1 st2 : ASt} : OpR M q o st st1 → OpsR M q r st1 st2 → OpsR M q (o :: r) st st2

/-- st1 knows less than st. -/
structure Le (st1 st : ASt) : Prop where
  fr : ∀ k, st1.fr k = .bot ∨ st1.fr k = st.fr k
  hp : ∀ s, st1.hp s = none ∨ st1.hp s = st.hp s
  dang : ∀ k s, s ∈ (st1.fr k).refs → st1.hp s ≠ none
  dangV : ∀ s cs, st1.hp s = some (.var cs) → ∀ s' ∈ AV.refsL cs, st1.hp s' ≠ none

/-- The slot k, which holds a nil slice, as an empty row of the call's own. -/
def ASt.row0 (st : ASt) (k s z : Nat) : ASt := { fr := upd st.fr k (.lsl s z 0 0), hp := upd st.hp s (some (.arr z [])) }

inductive Ex (M : Rets) : ACode → ASt → AExit → ASt → Prop
  | skip (st : ASt) : Ex M .skip st .norm st
  | region {ops : List AOper} {dr : Bool} {st st' : ASt} : OpsR M dr ops st st' → Ex M (.region ops dr) st .norm st'
  | seqN {a b : ACode} {st st1 st2 : ASt} {e : AExit} : Ex M a st .norm st1 → Ex M b st1 e st2 → Ex M (.seq a b) st e st2
  | seqE {a b : ACode} {st st1 : ASt} {e : AExit} : Ex M a st e st1 → e ≠ .norm → Ex M (.seq a b) st e st1
  | cond {c : AOpd} {a b : ACode} {st st' : ASt} {e : AExit} {t : Bool} : st.ev c = .v (.bool t) → Ex M (if t then a else b) st e st' → Ex M (.cond c a b) st e st'
  | blockX {id : Nat} {b : ACode} {st st' : ASt} : Ex M b st (.exit id) st' → Ex M (.block id b) st .norm st'
  | blockO {id : Nat} {b : ACode} {st st' : ASt} {e : AExit} : Ex M b st e st' → e ≠ .exit id → Ex M (.block id b) st e st'
  | loopN {b : ACode} {st st1 st2 : ASt} {e : AExit} : Ex M b st .norm st1 → Ex M (.loop b) st1 e st2 → Ex M (.loop b) st e st2
  | loopE {b : ACode} {st st1 : ASt} {e : AExit} : Ex M b st e st1 → e ≠ .norm → Ex M (.loop b) st e st1
  | exit (id : Nat) (st : ASt) : Ex M (.exit id) st (.exit id) st
  | ret (st : ASt) : Ex M .ret st .ret st
  | weak {c : ACode} {st st1 st' : ASt} {e : AExit} : Le st1 st → Ex M c st1 e st' → Ex M c st e st'
  | row0 {c : ACode} {st st' : ASt} {e : AExit} (k s z : Nat) : st.fr k = .v (.slice none 0 0) → st.hp s = none → s < 1000 → Ex M c (st.row0 k s z) e st' → Ex M c st e st'
  | frz {c : ACode} {st st' : ASt} {e : AExit} (s : Nat) : Ex M c (st.freeze s) e st' → Ex M c st e st'

/-! ### functions -/

def enterFr : Nat → List AV → Nat → AV
  | _, [] => fun _ => .bot
  | i, x :: r => upd (enterFr (i + 1) r) i (match x with | .own z es => .lsl (1000 + i) z 0 es.length | x => x)
def enterHp : Nat → List AV → Nat → Option Blk
  | _, [] => fun _ => none
  | i, x :: r => match x with | .own z es => upd (enterHp (i + 1) r) (1000 + i) (some (.arr z es)) | _ => enterHp (i + 1) r
def enter (args : List AV) : ASt := { fr := enterFr 0 args, hp := enterHp 0 args }

def resVal (st : ASt) : ARes → Option AV
  | .tmp t => some (st.fr t)
  | .cell t n => match cellsAt st.hp (st.fr t) with | some (cs, off) => partA cs off n | none => none

/-- The answer of a function that hands fresh slices out. -/
def expOwn (st : ASt) : AV → Option AV
  | .lsl s z 0 n => match st.hp s with | some (.arr z' es) => if z = z' ∧ n = es.length ∧ s < 1000 then some (.own z es) else none | _ => none
  | x => if x.refs.isEmpty then some x else none
def oneOrTup : List AV → AV
  | [x] => x
  | l => .tup l
def outsOf (st : ASt) (muts : List Nat) : Option (List (List (List AV))) :=
  optAll (fun i => match st.hp (1000 + i) with | some (.arr _ es) => some es | _ => none) muts
def export_ (own : Bool) (muts : List Nat) (res : List ARes) (st : ASt) : Option (AV × List (List (List AV))) :=
  match optAll (resVal st) res with
  | some rs =>
    if own = true then
      (if nodupB (AV.refsL rs) = true ∧ muts = [] then (match optAll (expOwn st) rs with | some ys => some (oneOrTup ys, []) | none => none) else none)
    else if muts = [] then (match optAll (snap2 st.hp) rs with | some ys => some (oneOrTup ys, []) | none => none)
    else if AV.refsL rs = [] then (match outsOf st muts with | some outs => some (oneOrTup rs, outs) | none => none)
    else none
  | none => none

/-- The arguments fit the function: as many, and just those are handed to be written that it writes. -/
def argsFit (muts : List Nat) : Nat → List AV → Bool
  | _, [] => true
  | i, x :: r => (isOwn x == muts.contains i) && argsFit muts (i + 1) r

def BodyR (M : Rets) (fn : AFunc) (args : List AV) (r : AV) (outs : List (List (List AV))) : Prop :=
  args.length = fn.np ∧ argsFit fn.muts 0 args = true ∧ ∃ e st', Ex M fn.body (enter args) e st' ∧ (e = .norm ∨ e = .ret) ∧ export_ fn.own fn.muts fn.res st' = some (r, outs)

/-- The functions of the table G answer as their code says. -/
def Ok (G : Nat → Option AFunc) (M : Rets) : Prop := ∀ f fn args r outs, G f = some fn → BodyR M fn args r outs → M.ret f args r outs

/-! ### how a run is shown -/

def W (M : Rets) (c : ACode) (Q : AExit → ASt → Prop) (st : ASt) : Prop := ∃ e st', Ex M c st e st' ∧ Q e st'

theorem W.mono {M : Rets} {c : ACode} {Q Q' : AExit → ASt → Prop} {st : ASt} (h : W M c Q st) (hq : ∀ e s, Q e s → Q' e s) : W M c Q' st :=
  let ⟨e, s, h1, h2⟩ := h; ⟨e, s, h1, hq _ _ h2⟩

def sq (K : ASt → Prop) (Q : AExit → ASt → Prop) : AExit → ASt → Prop
  | .norm, s => K s
  | e, s => Q e s
theorem sq_norm (K : ASt → Prop) (Q : AExit → ASt → Prop) (s : ASt) : sq K Q .norm s = K s := rfl
theorem sq_exit (K : ASt → Prop) (Q : AExit → ASt → Prop) (id : Nat) (s : ASt) : sq K Q (.exit id) s = Q (.exit id) s := rfl
theorem sq_ret (K : ASt → Prop) (Q : AExit → ASt → Prop) (s : ASt) : sq K Q .ret s = Q .ret s := rfl
def bk (id : Nat) (Q : AExit → ASt → Prop) : AExit → ASt → Prop
  | .exit i, s => if i = id then Q .norm s else Q (.exit i) s
  | e, s => Q e s
theorem bk_norm (id : Nat) (Q : AExit → ASt → Prop) (s : ASt) : bk id Q .norm s = Q .norm s := rfl
theorem bk_ret (id : Nat) (Q : AExit → ASt → Prop) (s : ASt) : bk id Q .ret s = Q .ret s := rfl
theorem bk_exit (id i : Nat) (Q : AExit → ASt → Prop) (s : ASt) : bk id Q (.exit i) s = if i = id then Q .norm s else Q (.exit i) s := rfl

theorem W.seq {M : Rets} {a b : ACode} {Q : AExit → ASt → Prop} {st : ASt} (h : W M a (sq (W M b Q) Q) st) : W M (.seq a b) Q st := by
  obtain ⟨e, s, h1, h2⟩ := h
  cases e with
  | norm => obtain ⟨e2, s2, h3, h4⟩ := h2; exact ⟨e2, s2, .seqN h1 h3, h4⟩
  | exit id => exact ⟨_, s, .seqE h1 (by simp), h2⟩
  | ret => exact ⟨_, s, .seqE h1 (by simp), h2⟩

theorem W.block {M : Rets} {id : Nat} {b : ACode} {Q : AExit → ASt → Prop} {st : ASt} (h : W M b (bk id Q) st) : W M (.block id b) Q st := by
  obtain ⟨e, s, h1, h2⟩ := h
  cases e with
  | norm => exact ⟨_, s, .blockO h1 (by simp), h2⟩
  | ret => exact ⟨_, s, .blockO h1 (by simp), h2⟩
  | exit i =>
    by_cases hi : i = id
    · subst hi; simp only [bk, if_true] at h2; exact ⟨_, s, .blockX h1, h2⟩
    · simp only [bk, if_neg hi] at h2; exact ⟨_, s, .blockO h1 (by simpa using hi), h2⟩

/-- A test's value, and what is owed on its two ways. -/
def cw (x : AV) (X Y : Prop) : Prop := match x with | .v (.bool t) => (t = true → X) ∧ (t = false → Y) | _ => False
theorem cw_t (X Y : Prop) : cw (.v (.bool true)) X Y = X := by simp [cw]
theorem cw_f (X Y : Prop) : cw (.v (.bool false)) X Y = Y := by simp [cw]
theorem cw_intro {t : Bool} {X Y : Prop} (h1 : t = true → X) (h2 : t = false → Y) : cw (.v (.bool t)) X Y := ⟨h1, h2⟩
theorem cw_bool (t : Bool) (X Y : Prop) : cw (.v (.bool t)) X Y = ((t = true → X) ∧ (t = false → Y)) := rfl
theorem W.cond {M : Rets} {c : AOpd} {a b : ACode} {Q : AExit → ASt → Prop} {st : ASt} (h : cw (st.ev c) (W M a Q st) (W M b Q st)) : W M (.cond c a b) Q st := by
  unfold cw at h
  split at h
  · rename_i t he
    cases t with
    | true => obtain ⟨e, s, h1, h2⟩ := h.1 rfl; exact ⟨e, s, .cond he (by simpa using h1), h2⟩
    | false => obtain ⟨e, s, h1, h2⟩ := h.2 rfl; exact ⟨e, s, .cond he (by simpa using h1), h2⟩
  · exact h.elim

theorem W.weak {M : Rets} {c : ACode} {Q : AExit → ASt → Prop} {st st1 : ASt} (hl : Le st1 st) (h : W M c Q st1) : W M c Q st :=
  let ⟨e, s, h1, h2⟩ := h; ⟨e, s, .weak hl h1, h2⟩

theorem noOwn_plain {r : AV} (h : r.plain = true) : noOwn r = true := by
  cases r with
  | own z es => simp [AV.plain] at h
  | tup vs =>
    simp only [AV.plain] at h
    refine List.all_eq_true.2 fun x hx => ?_
    have := List.all_eq_true.1 h x hx
    cases x <;> simp_all [AV.plain2, isOwn]
  | _ => rfl
/-- A call whose arguments are known: what is owed of its answer. -/
def retW (M : Rets) (q frz : Bool) (sites refs : List Nat) (f : Nat) (args' : List AV) (d : Nat) (st : ASt) (K : AV → ASt → Prop) : Prop :=
  ∃ r outs st1 st2 v st', M.ret f args' r outs ∧ settle frz refs r st = some st1 ∧ setOuts st1 sites outs = some st2 ∧ imp d r st2 = some (v, st') ∧ (q = true → st' = st ∧ outs = [] ∧ v = r ∧ (r.plain = true ∨ refs = []) ∧ noOwn r = true) ∧ K v st'
def argK (x : Option (List AV)) (K : List AV → Prop) : Prop := match x with | some a => K a | none => False
theorem argK_some (a : List AV) (K : List AV → Prop) : argK (some a) K = K a := rfl
/-- A call, and what is owed behind it. -/
def callW (M : Rets) (q frz : Bool) (muts : List Nat) (f : Nat) (args : List AV) (d : Nat) (st : ASt) (K : AV → ASt → Prop) : Prop :=
  (nodupB (mutSites muts 0 args) && (!q || muts.isEmpty)) = true ∧ argK (passArgs st.hp muts 0 args) fun a => retW M q frz (mutSites muts 0 args) (if muts.isEmpty then AV.refsL args else []) f a d st K
theorem callW_sound {M : Rets} {q frz : Bool} {muts : List Nat} {f : Nat} {args : List AV} {d : Nat} {st : ASt} {K : AV → ASt → Prop} (h : callW M q frz muts f args d st K) :
    ∃ v st', (if q = true then muts = [] ∧ st' = st ∧ CallQ M f args st v else CallR M frz muts f args d st v st') ∧ K v st' := by
  obtain ⟨hn, h⟩ := h
  simp only [Bool.and_eq_true, Bool.or_eq_true, Bool.not_eq_true', List.isEmpty_iff] at hn
  unfold argK at h
  split at h
  · rename_i a ha
    obtain ⟨r, outs, st1, st2, v, st', h1, h2, h3, h4, hq, h5⟩ := h
    cases q with
    | true =>
      obtain ⟨rfl, rfl, rfl, k1, k2⟩ := hq rfl
      have hm : muts = [] := by simpa using hn.2
      subst hm
      exact ⟨v, st', by rw [if_pos rfl]; exact ⟨rfl, rfl, a, ha, h1, by simpa using k1, k2⟩, h5⟩
    | false => exact ⟨v, st', by simp only [Bool.false_eq_true, if_false]; exact ⟨a, r, outs, st1, st2, ha, hn.1, h1, h2, h3, h4⟩, h5⟩
  · exact h.elim

theorem impL_plain (d : Nat) : ∀ (i : Nat) (vs : List AV) (st : ASt), vs.all AV.plain2 = true → impL d i vs st = some (vs, st)
  | _, [], _, _ => rfl
  | i, x :: r, st, h => by
    simp only [List.all_cons, Bool.and_eq_true] at h
    have ih := impL_plain d (i + 1) r st h.2
    have hx := h.1
    cases x <;> simp_all [impL, AV.plain2]
theorem imp_plain {r : AV} (h : r.plain = true) (d : Nat) (st : ASt) : imp d r st = some (r, st) := by
  cases r with
  | tup vs => simp only [imp]; rw [impL_plain d 0 vs st (by simpa [AV.plain] using h)]
  | own z es => simp [AV.plain] at h
  | _ => rfl
theorem retW_plain {M : Rets} {q frz : Bool} {refs : List Nat} {f : Nat} {args' : List AV} {d : Nat} {st : ASt} {K : AV → ASt → Prop} {r : AV}
    (h : M.ret f args' r []) (hp : r.plain = true) (k : K r st) : retW M q frz [] refs f args' d st K :=
  ⟨r, [], st, st, r, st, h, by simp [settle, hp], rfl, imp_plain hp d st, fun _ => ⟨rfl, rfl, rfl, .inl hp, noOwn_plain hp⟩, k⟩
theorem retW_free {M : Rets} {frz : Bool} {f : Nat} {args' : List AV} {d : Nat} {st : ASt} {K : AV → ASt → Prop} {r : AV}
    (h : M.ret f args' r []) {v : AV} {st' : ASt} (hi : imp d r st = some (v, st')) (k : K v st') : retW M false frz [] [] f args' d st K :=
  ⟨r, [], st, st, v, st', h, by simp [settle], rfl, hi, by simp, k⟩
theorem impL_quiet (d : Nat) : ∀ (i : Nat) (vs : List AV) (st : ASt), (vs.all fun x => !isOwn x) = true → impL d i vs st = some (vs, st)
  | _, [], _, _ => rfl
  | i, x :: r, st, h => by
    simp only [List.all_cons, Bool.and_eq_true] at h
    have ih := impL_quiet d (i + 1) r st h.2
    have hx := h.1
    cases x <;> simp_all [impL, isOwn]
theorem imp_quiet {r : AV} (h : noOwn r = true) (d : Nat) (st : ASt) : imp d r st = some (r, st) := by
  cases r with
  | tup vs => simp only [imp]; rw [impL_quiet d 0 vs st h]
  | own z es => simp [noOwn] at h
  | _ => rfl
theorem retW_quiet {M : Rets} {q frz : Bool} {f : Nat} {args' : List AV} {d : Nat} {st : ASt} {K : AV → ASt → Prop} {r : AV}
    (h : M.ret f args' r []) (hr : noOwn r = true) (k : K r st) : retW M q frz [] [] f args' d st K :=
  ⟨r, [], st, st, r, st, h, by simp [settle], rfl, imp_quiet hr d st, fun _ => ⟨rfl, rfl, rfl, .inr rfl, hr⟩, k⟩
theorem CallQ.loud {M : Rets} {frz : Bool} {f : Nat} {args : List AV} {d : Nat} {st : ASt} {v : AV} (h : CallQ M f args st v) : CallR M frz [] f args d st v st := by
  obtain ⟨args', h1, h2, h3, h4⟩ := h
  have hm : ∀ (i : Nat) (l : List AV), mutSites [] i l = [] := by
    intro i l
    induction l generalizing i with
    | nil => rfl
    | cons x r ih => simp [mutSites, ih (i + 1)]
  refine ⟨args', v, [], st, st, h1, by rw [hm]; rfl, h2, ?_, by rw [hm]; rfl, imp_quiet h4 d st⟩
  simp only [settle, List.isEmpty_nil, if_true]
  rw [if_pos h3]

def oK (x : Option (AV × ASt)) (K : AV → ASt → Prop) : Prop := match x with | some p => K p.1 p.2 | none => False
theorem oK_some (v : AV) (st : ASt) (K : AV → ASt → Prop) : oK (some (v, st)) K = K v st := rfl
def stepW (M : Rets) (q : Bool) (o : AOp) (d : Nat) (st : ASt) (K : AV → ASt → Prop) : Prop :=
  match o with
  | .call frz muts f args => callW M q frz muts f (args.map st.ev) d st K
  | .calld frz x args => match st.ev x with | .fn f caps => callW M q frz [] f (args.map st.ev ++ caps) d st K | _ => False
  | o => oK (aop o d st) K
theorem stepW_sound {M : Rets} {q : Bool} {o : AOp} {d : Nat} {st : ASt} {K : AV → ASt → Prop} (h : stepW M q o d st K) : ∃ v st', StepR M q o d st v st' ∧ K v st' := by
  cases o with
  | call frz muts f args => exact callW_sound h
  | calld frz x args =>
    simp only [stepW] at h
    split at h
    · rename_i f caps he
      obtain ⟨v, st', h1, h2⟩ := callW_sound h
      refine ⟨v, st', ?_, h2⟩
      simp only [StepR, he]
      cases q with
      | true => simp only [if_true] at h1 ⊢; exact h1.2
      | false => simpa using h1
    · exact h.elim
  | _ =>
    simp only [stepW, oK] at h
    split at h
    · rename_i p hp
      exact ⟨p.1, p.2, hp, h⟩
    · exact h.elim

/-- A guard's value, and what is owed on its two ways. -/
def gW (x : AV) (want : Bool) (X Y : Prop) : Prop := match x with | .v (.bool b) => (b = want → X) ∧ (b = !want → Y) | .v (.tuple _) => Y | _ => False
theorem gW_tt (X Y : Prop) : gW (.v (.bool true)) true X Y = X := by simp [gW]
theorem gW_tf (X Y : Prop) : gW (.v (.bool true)) false X Y = Y := by simp [gW]
theorem gW_ft (X Y : Prop) : gW (.v (.bool false)) true X Y = Y := by simp [gW]
theorem gW_ff (X Y : Prop) : gW (.v (.bool false)) false X Y = X := by simp [gW]
theorem gW_ud (want : Bool) (X Y : Prop) : gW ud want X Y = Y := rfl
theorem gW_intro {b want : Bool} {X Y : Prop} (h1 : b = want → X) (h2 : b = !want → Y) : gW (.v (.bool b)) want X Y := ⟨h1, h2⟩

def opsW (M : Rets) (q : Bool) (Q : ASt → Prop) : List AOper → ASt → Prop
  | [], st => Q st
  | ⟨d, op, none, _⟩ :: r, st => stepW M q op (d.getD 0) st fun v st1 => opsW M q Q r (st1.putO d v)
  | ⟨d, op, some (t, want), _⟩ :: r, st => gW (st.fr t) want (stepW M q op (d.getD 0) st fun v st1 => opsW M q Q r (st1.putO d v)) (opsW M q Q r (st.putO d ud))

theorem opsW_sound {M : Rets} {q : Bool} {Q : ASt → Prop} : ∀ (ops : List AOper) (st : ASt), opsW M q Q ops st → ∃ st', OpsR M q ops st st' ∧ Q st'
  | [], st, h => ⟨st, .nil st, h⟩
  | ⟨d, op, none, af⟩ :: r, st, h => by
    obtain ⟨v, st1, h1, h2⟩ := stepW_sound h
    obtain ⟨st2, h3, h4⟩ := opsW_sound r _ h2
    exact ⟨st2, .cons (.inl ⟨by simp [gval], v, st1, h1, rfl⟩) h3, h4⟩
  | ⟨d, op, some (t, want), af⟩ :: r, st, h => by
    simp only [opsW, gW] at h
    split at h
    · rename_i b hb
      by_cases hw : b = want
      · obtain ⟨v, st1, h1, h2⟩ := stepW_sound (h.1 hw)
        obtain ⟨st2, h3, h4⟩ := opsW_sound r _ h2
        exact ⟨st2, .cons (.inl ⟨by simp [gval, hb, hw], v, st1, h1, rfl⟩) h3, h4⟩
      · have hn : b = !want := by cases b <;> cases want <;> simp_all
        obtain ⟨st2, h3, h4⟩ := opsW_sound r _ (h.2 hn)
        exact ⟨st2, .cons (.inr ⟨by simp [gval, hb, hw], rfl⟩) h3, h4⟩
    · rename_i x hb
      obtain ⟨st2, h3, h4⟩ := opsW_sound r _ h
      exact ⟨st2, .cons (.inr ⟨by simp [gval, hb], rfl⟩) h3, h4⟩
    · exact h.elim

theorem W.region {M : Rets} {ops : List AOper} {dr : Bool} {Q : AExit → ASt → Prop} {st : ASt} (h : opsW M dr (Q .norm) ops st) : W M (.region ops dr) Q st := by
  obtain ⟨st', h1, h2⟩ := opsW_sound ops st h
  exact ⟨.norm, st', .region h1, h2⟩

/-- All of a piece of code at once, but for its loops. -/
def wp (M : Rets) : ACode → (AExit → ASt → Prop) → ASt → Prop
  | .skip, Q, st => Q .norm st
  | .region ops dr, Q, st => opsW M dr (Q .norm) ops st
  | .seq a b, Q, st => wp M a (sq (wp M b Q) Q) st
  | .cond c a b, Q, st => cw (st.ev c) (wp M a Q st) (wp M b Q st)
  | .block id b, Q, st => wp M b (bk id Q) st
  | .loop b, Q, st => W M (.loop b) Q st
  | .exit id, Q, st => Q (.exit id) st
  | .ret, Q, st => Q .ret st

theorem wp_sound {M : Rets} : ∀ (c : ACode) (Q : AExit → ASt → Prop) (st : ASt), wp M c Q st → W M c Q st
  | .skip, _, st, h => ⟨_, st, .skip st, h⟩
  | .region _ _, _, _, h => W.region h
  | .seq a b, Q, st, h => W.seq ((wp_sound a _ st h).mono fun e s hq => by cases e with | norm => exact wp_sound b Q s hq | exit id => exact hq | ret => exact hq)
  | .cond c a b, Q, st, h => W.cond (by
      simp only [wp, cw] at h ⊢
      split at h
      · exact ⟨fun ht => wp_sound a Q st (h.1 ht), fun ht => wp_sound b Q st (h.2 ht)⟩
      · exact h.elim)
  | .block _ b, _, st, h => W.block (wp_sound b _ st h)
  | .loop _, _, _, h => h
  | .exit id, _, st, h => ⟨_, st, .exit id st, h⟩
  | .ret, _, st, h => ⟨_, st, .ret st, h⟩

/-- A loop: what holds at each round's head, by a number that each round lowers. -/
theorem W.loop {M : Rets} {b : ACode} {Q : AExit → ASt → Prop} {α : Type} (I : α → ASt) (P : α → Prop) (μ : α → Nat)
    (round : ∀ a, P a → wp M b (sq (fun s => ∃ a', P a' ∧ μ a' < μ a ∧ Le (I a') s) Q) (I a)) (a : α) (ha : P a) {st : ASt} (hst : Le (I a) st) : W M (.loop b) Q st := by
  have key : ∀ n a, μ a = n → P a → W M (.loop b) Q (I a) := by
    intro n
    induction n using Nat.strongRecOn with
    | _ n ih =>
      intro a hn ha
      obtain ⟨e, s, h1, h2⟩ := wp_sound b _ _ (round a ha)
      cases e with
      | norm =>
        obtain ⟨a', hp, hlt, hle⟩ := h2
        obtain ⟨e2, s2, h3, h4⟩ := ih (μ a') (hn ▸ hlt) a' rfl hp
        exact ⟨e2, s2, .loopN h1 (.weak hle h3), h4⟩
      | exit id => exact ⟨_, s, .loopE h1 (by simp), h2⟩
      | ret => exact ⟨_, s, .loopE h1 (by simp), h2⟩
  exact W.weak hst (key _ a rfl ha)

/-! ### a state that is known slot by slot -/

def frOf : List (Nat × AV) → Nat → AV
  | [] => fun _ => .bot
  | (k, x) :: r => upd (frOf r) k x
def hpOf : List (Nat × Blk) → Nat → Option Blk
  | [] => fun _ => none
  | (k, x) :: r => upd (hpOf r) k (some x)
def mkSt (l : List (Nat × AV)) (h : List (Nat × Blk)) : ASt := { fr := frOf l, hp := hpOf h }
def leFr (s : ASt) : List (Nat × AV) → Prop
  | [] => True
  | (k, x) :: r => s.fr k = x ∧ leFr s r
def leHp (s : ASt) : List (Nat × Blk) → Prop
  | [] => True
  | (k, x) :: r => s.hp k = some x ∧ leHp s r
def Blk.refs : Blk → List Nat
  | .var cs => AV.refsL cs
  | .arr _ _ => []
def blkRefs : List (Nat × Blk) → List Nat
  | [] => []
  | (_, b) :: r => b.refs ++ blkRefs r
def dangB (l : List (Nat × AV)) (h : List (Nat × Blk)) : Bool :=
  (AV.refsL (l.map (·.2)) ++ blkRefs h).all fun s => (h.map (·.1)).contains s

theorem hpOf_some : ∀ (h : List (Nat × Blk)) (s : Nat), s ∈ h.map (·.1) → hpOf h s ≠ none
  | (k, x) :: r, s, hm => by
    simp only [hpOf, upd]
    split
    · simp
    · rename_i hne
      simp only [List.map_cons, List.mem_cons] at hm
      exact hpOf_some r s (hm.resolve_left hne)
theorem mem_refsL {l : List AV} {s : Nat} : s ∈ AV.refsL l ↔ ∃ x ∈ l, s ∈ x.refs := by
  induction l with
  | nil => simp [AV.refsL]
  | cons a r ih => simp [AV.refsL, ih]
theorem frOf_refs : ∀ (l : List (Nat × AV)) (k s : Nat), s ∈ (frOf l k).refs → s ∈ AV.refsL (l.map (·.2))
  | [], k, s, h => by simp [frOf, AV.refs] at h
  | (k', x) :: r, k, s, h => by
    simp only [frOf, upd] at h
    simp only [List.map_cons, AV.refsL, List.mem_append]
    split at h
    · exact .inl h
    · exact .inr (frOf_refs r k s h)
theorem hpOf_refs : ∀ (h : List (Nat × Blk)) (k : Nat) (b : Blk) (s : Nat), hpOf h k = some b → s ∈ b.refs → s ∈ blkRefs h
  | [], k, b, s, e, _ => by simp [hpOf] at e
  | (k', x) :: r, k, b, s, e, hm => by
    simp only [hpOf, upd] at e
    simp only [blkRefs, List.mem_append]
    split at e
    · cases e; exact .inl hm
    · exact .inr (hpOf_refs r k b s e hm)
theorem leFr_out {s : ASt} : ∀ (l : List (Nat × AV)), leFr s l → ∀ k, frOf l k = .bot ∨ frOf l k = s.fr k
  | [], _, k => .inl rfl
  | (k', x) :: r, h, k => by
    simp only [frOf, upd]
    split
    · rename_i e; subst e; exact .inr h.1.symm
    · exact leFr_out r h.2 k
theorem leHp_out {s : ASt} : ∀ (l : List (Nat × Blk)), leHp s l → ∀ k, hpOf l k = none ∨ hpOf l k = s.hp k
  | [], _, k => .inl rfl
  | (k', x) :: r, h, k => by
    simp only [hpOf, upd]
    split
    · rename_i e; subst e; exact .inr h.1.symm
    · exact leHp_out r h.2 k
theorem Le.mk' {l : List (Nat × AV)} {h : List (Nat × Blk)} {s : ASt} (h1 : leFr s l) (h2 : leHp s h) (h3 : dangB l h = true) : Le (mkSt l h) s := by
  have hd : ∀ x, x ∈ AV.refsL (l.map (·.2)) ++ blkRefs h → x ∈ h.map (·.1) := by
    intro x hx
    have := (List.all_eq_true.1 h3) x hx
    simpa using this
  refine ⟨leFr_out l h1, leHp_out h h2, fun k s' hs => ?_, fun s' cs hc s'' hs => ?_⟩
  · exact hpOf_some h s' (hd s' (List.mem_append.2 (.inl (frOf_refs l k s' hs))))
  · exact hpOf_some h s'' (hd s'' (List.mem_append.2 (.inr (hpOf_refs h s' (.var cs) s'' hc hs))))

/-- The end of a function: what it hands back. -/
def endsW (own : Bool) (muts : List Nat) (res : List ARes) (r : AV) (outs : List (List (List AV))) : AExit → ASt → Prop
  | .exit _, _ => False
  | _, st => export_ own muts res st = some (r, outs)
theorem ret_of_wp {G : Nat → Option AFunc} {M : Rets} (hM : Ok G M) {f : Nat} (fn : AFunc) (hf : G f = some fn) {args : List AV} {r : AV} {outs : List (List (List AV))}
    (hn : args.length = fn.np) (ha : argsFit fn.muts 0 args = true) (h : wp M fn.body (endsW fn.own fn.muts fn.res r outs) (enter args)) : M.ret f args r outs := by
  obtain ⟨e, s, h1, h2⟩ := wp_sound _ _ _ h
  refine hM f fn args r outs hf ⟨hn, ha, e, s, h1, ?_, ?_⟩
  · cases e with
    | norm => exact .inl rfl
    | ret => exact .inr rfl
    | exit id => exact h2.elim
  · cases e with
    | norm => exact h2
    | ret => exact h2
    | exit id => exact h2.elim

attribute [go_sem] wp opsW stepW callW passArgs mutSites nodupB argK_some snap snap1 snap2 AV.refs AV.refsL AV.plain AV.plain1 AV.plain2 aop oK_some enter enterFr enterHp ASt.ev ASt.put ASt.putO ASt.setH upd AV.cells AV.cell1 List.all_cons List.all_nil Bool.and_self Bool.and_true Bool.true_and Option.getD_some Option.getD_none cellsAt partA List.getElem?_cons_zero List.getElem?_cons_succ List.drop_zero List.drop_succ_cons List.drop_nil List.take_zero List.take_succ_cons List.take_nil List.length_cons List.length_nil List.map_cons List.map_nil binV unV sq_norm sq_ret sq_exit bk_norm bk_ret bk_exit cw_t cw_f gW_tt gW_tf gW_ft gW_ff gW_ud endsW export_ resVal expOwn outsOf oneOrTup optAll fillZ overwrite mkSt frOf hpOf leFr leHp dangB blkRefs Blk.refs List.nil_append List.append_nil List.cons_append List.isEmpty_nil List.isEmpty_cons List.contains_nil List.contains_cons if_true if_false decide_true decide_false not_true_eq_false not_false_eq_true Bool.not_true Bool.not_false Nat.zero_add Nat.add_zero Nat.le_refl Bool.false_eq_true Bool.or_true Bool.true_or Bool.or_false Bool.false_or and_self and_true true_and Option.some.injEq Prod.mk.injEq

/-! ### how far simp goes: what stands behind a step is let alone till the step is made -/
@[congr] theorem oK_congr {x x' : Option (AV × ASt)} {K : AV → ASt → Prop} (h : x = x') : oK x K = oK x' K := by rw [h]
@[congr] theorem opsW_congr {M : Rets} {q : Bool} {Q : ASt → Prop} {ops : List AOper} {st st' : ASt} (h : st = st') : opsW M q Q ops st = opsW M q Q ops st' := by rw [h]
@[congr] theorem stepW_congr {M : Rets} {q : Bool} {o : AOp} {d : Nat} {st st' : ASt} {K : AV → ASt → Prop} (h : st = st') : stepW M q o d st K = stepW M q o d st' K := by rw [h]
@[congr] theorem wp_congr {M : Rets} {c : ACode} {Q : AExit → ASt → Prop} {st st' : ASt} (h : st = st') : wp M c Q st = wp M c Q st' := by rw [h]
@[congr] theorem W_congr {M : Rets} {c : ACode} {Q : AExit → ASt → Prop} {st st' : ASt} (h : st = st') : W M c Q st = W M c Q st' := by rw [h]
@[congr] theorem cw_congr {x x' : AV} {X Y : Prop} (h : x = x') : cw x X Y = cw x' X Y := by rw [h]
@[congr] theorem gW_congr {x x' : AV} {want : Bool} {X Y : Prop} (h : x = x') : gW x want X Y = gW x' want X Y := by rw [h]
@[congr] theorem callW_congr {M : Rets} {q frz : Bool} {muts : List Nat} {f : Nat} {args args' : List AV} {d : Nat} {st st' : ASt} {K : AV → ASt → Prop} (h : args = args') (h2 : st = st') :
    callW M q frz muts f args d st K = callW M q frz muts f args' d st' K := by rw [h, h2]
@[congr] theorem argK_congr {x x' : Option (List AV)} {K : List AV → Prop} (h : x = x') : argK x K = argK x' K := by rw [h]
@[congr] theorem retW_congr {M : Rets} {q frz : Bool} {sites sites' refs refs' : List Nat} {f : Nat} {args args' : List AV} {d : Nat} {st st' : ASt} {K : AV → ASt → Prop} (h0 : sites = sites') (h1 : refs = refs') (h : args = args') (h2 : st = st') :
    retW M q frz sites refs f args d st K = retW M q frz sites' refs' f args' d st' K := by rw [h0, h1, h, h2]
@[congr] theorem sq_congr {K : ASt → Prop} {Q : AExit → ASt → Prop} {e e' : AExit} {s s' : ASt} (h : e = e') (h2 : s = s') : sq K Q e s = sq K Q e' s' := by rw [h, h2]
@[congr] theorem bk_congr {id : Nat} {Q : AExit → ASt → Prop} {e e' : AExit} {s s' : ASt} (h : e = e') (h2 : s = s') : bk id Q e s = bk id Q e' s' := by rw [h, h2]

end Ab
