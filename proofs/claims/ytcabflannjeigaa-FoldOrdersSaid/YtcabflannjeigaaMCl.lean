/-
  Functions that are shown by hand: slices.Clone.
-/
import Derived.Test.YtcabflannjeigaaB2
namespace Ab
open Go Go.RowKit
set_option linter.unusedVariables false
set_option linter.unusedSimpArgs false

/-- slices.Clone, of elements of z cells. -/
def cloneC (frz : Bool) (z : Nat) (zero : List Value) : TCode :=
  .seq (.region [⟨some 2, .mov (.c (.slice none 0 0)), none, []⟩] [] false)
    (.seq (.seq (.region [⟨some 3, .mov (.t 0), none, []⟩, ⟨some 4, .eqn true false (.t 3), none, []⟩] [] false)
        (.cond (.t 4) (.seq (.region [⟨some 2, .mov (.c (.slice none 0 0)), none, []⟩] [] false) .ret) .skip))
      (.seq (.region [⟨some 5, .bslice frz z zero 0 [], none, []⟩, ⟨some 6, .mov (.t 0), none, []⟩, ⟨some 7, .app z (.t 5) (.t 6), none, []⟩, ⟨some 2, .mov (.t 7), none, []⟩] [] false) .ret))
def cloneF (frz : Bool) (z : Nat) (zero : List Value) : TFunc := { np := 1, nt := 8, res := [.tmp 2], own := true, body := cloneC frz z zero }

section
variable {S : Seat} {id : Nat} {frz : Bool} {z : Nat} {zero : List Value}

theorem clone_run {M : Rets} {x : AV} {es : List (List AV)} (hx : ∀ (d : Nat) (st : ASt), st.ev (.t 3) = x → aop (.eqn true false (.t 3)) d st = some (.v (.bool false), st)) (he : ∀ hp, elemsOf hp z x = some es)
    (hroom : es.length ≤ roomA) (st : ASt) (h0 : st.fr 0 = x) (h1 : st.hp = fun _ => none) : ∃ st', Ex M (cloneC frz z zero).er st .ret st' ∧ export_ true [] [.tmp 2] st' = some (.own z es, []) := by
  let st1 := st.put 2 (.v (.slice none 0 0))
  let st2 := st1.put 3 x
  let st3 := st2.put 4 (.v (.bool false))
  let st4 := (st3.setH 5 (some (.arr z []))).put 5 (.lsl 5 z 0 0)
  let st5 := st4.put 6 x
  let st6 := ((st5.scrub 5).setH 5 (some (.arr z es))).put 7 (.lsl 5 z 0 es.length)
  let st7 := st6.put 2 (.lsl 5 z 0 es.length)
  have e0 : st1.fr 0 = x := h0
  have e3 : st4.fr 0 = x := h0
  have a1 : aop (.mov (.t 0)) 3 st1 = some (x, st1) := by show some (st1.fr 0, st1) = _; rw [e0]
  have a2 : aop (.eqn true false (.t 3)) 4 st2 = some (.v (.bool false), st2) := hx 4 st2 rfl
  have a3 : aop (.bslice frz z zero 0 []) 5 st3 = some (.lsl 5 z 0 0, st3.setH 5 (some (.arr z []))) := by
    have hp5 : st3.hp 5 = none := by show st.hp 5 = none; rw [h1]
    have hr : partRefs st3 [] = [] := rfl
    simp only [aop, hp5, optAll, hr, or_true, if_true, ASt.freezeL, List.replicate_zero, List.foldl_nil]
  have a4 : aop (.mov (.t 0)) 6 st4 = some (x, st4) := by show some (st4.fr 0, st4) = _; rw [e3]
  have a5 : aop (.app z (.t 5) (.t 6)) 7 st5 = some (.lsl 5 z 0 es.length, (st5.scrub 5).setH 5 (some (.arr z es))) := by
    have e6 : st5.ev (.t 6) = x := rfl
    have e5 : st5.ev (.t 5) = .lsl 5 z 0 0 := rfl
    have hp5 : st5.hp 5 = some (.arr z []) := rfl
    simp only [aop, e6, he, e5, hp5, List.length_nil, Nat.zero_add, List.nil_append]
    rw [if_pos ⟨rfl, trivial, trivial, trivial, hroom⟩]
  refine ⟨st7, .seqN (.region (.cons (.inl ⟨rfl, _, st, rfl, rfl⟩) (.nil _))) (.seqN (b := ACode.seq _ _) (st1 := st3) (.seqN (.region (.cons (.inl ⟨rfl, _, _, a1, rfl⟩) (.cons (.inl ⟨rfl, _, _, a2, rfl⟩) (.nil _)))) (.cond (t := false) rfl (.skip _)))
    (.seqN (.region (.cons (.inl ⟨rfl, _, _, a3, rfl⟩) (.cons (.inl ⟨rfl, _, _, a4, rfl⟩) (.cons (.inl ⟨rfl, _, _, a5, rfl⟩) (.cons (.inl ⟨rfl, _, _, rfl, rfl⟩) (.nil _)))))) (.ret _))), ?_⟩
  have e2 : st7.fr 2 = .lsl 5 z 0 es.length := rfl
  have hp5 : st7.hp 5 = some (.arr z es) := rfl
  have x1 : expOwn st7 (.lsl 5 z 0 es.length) = some (.own z es) := by simp only [expOwn, hp5]; rw [if_pos ⟨trivial, trivial, rfl⟩]
  simp only [export_, optAll, resVal, e2, if_true, x1, oneOrTup]
  rw [if_pos (by exact ⟨rfl, trivial⟩)]

/-- Of a slice that is not nil. -/
theorem clone_some (h : Ok1 S id (cloneF frz z zero)) {x : AV} {es : List (List AV)} (hx : ∀ (d : Nat) (st : ASt), st.ev (.t 3) = x → aop (.eqn true false (.t 3)) d st = some (.v (.bool false), st)) (he : ∀ hp, elemsOf hp z x = some es) (ho : isOwn x = false)
    (hroom : es.length ≤ roomA) : (realRets S).ret id [x] (.own z es) [] := by
  obtain ⟨st', k1, k2⟩ := clone_run (M := realRets S) (frz := frz) (zero := zero) hx he hroom (enter [] [x]) (by
    clear hx he
    cases x with
    | own => simp [isOwn] at ho
    | _ => rfl) (enterHp_none [] 0 [x] (by simpa using ho))
  exact h id (cloneF frz z zero).er [x] (.own z es) [] (if_pos rfl) ⟨rfl, by simp [argsFit, ho, handed, TFunc.er, cloneF], .ret, st', k1, .inr rfl, k2⟩
theorem clone_nil (h : Ok1 S id (cloneF frz z zero)) : (realRets S).ret id [aN] aN [] := by
  refine h id (cloneF frz z zero).er [aN] aN [] (if_pos rfl) ⟨rfl, rfl, .ret, _, .seqN (.region (.cons (.inl ⟨rfl, _, _, rfl, rfl⟩) (.nil _))) (.seqE (.seqN (.region (.cons (.inl ⟨rfl, _, _, rfl, rfl⟩) (.cons (.inl ⟨rfl, _, _, rfl, rfl⟩) (.nil _)))) (.cond (t := true) rfl (.seqN (.region (.cons (.inl ⟨rfl, _, _, rfl, rfl⟩) (.nil _))) (.ret _)))) (by intro e; cases e)), .inr rfl, rfl⟩

/-- A copy of any slice. -/
theorem clone_ret (h : Ok1 S id (cloneF frz z zero)) {es : List (List AV)} (hroom : es.length ≤ roomA) : (realRets S).ret id [.sl z es] (.own z es) [] := by
  cases es with
  | cons e es =>
    refine clone_some h (fun d st hs => ?_) (fun hp => by simp [elemsOf]) rfl hroom
    simp only [aop, hs, if_true]
  | nil =>
    intro g hg
    refine realM_of (fun A w vs hl hA ha => ?_) (by simp [isOwn])
    have hv := ha 0 _ rfl
    have c1 : (realRets S).ret id [aN] (.own z []) [] := ret_rw1 rfl rfl (.inr (.inr ⟨rfl, z, rfl⟩)) (clone_nil h)
    have c2 : ∀ a cap, (realRets S).ret id [.v (.slice (some a) 0 cap)] (.own z []) [] := fun a cap =>
      clone_some h (fun d st hs => by simp only [aop, hs, if_true]) (fun hp => rfl) rfl (by simp [roomA])
    have use : ∀ x, (realRets S).ret id [x] (.own z []) [] → isOwn x = false → VR0 S A w x (vs.getD 0 undef) → Calls S.P g vs w fun e w' => ∃ v, e = .returned v ∧ KeepO (fun _ => False) w w' ∧ RetR S A w w' (.own z []) v := fun x hr ho hx =>
      (hr g hg).old (by simpa using ho) A w vs hl hA fun i y hy => by
        cases i with
        | zero => simp at hy; subst hy; exact hx
        | succ i => simp at hy
    have hs := VR.sl_inv (σ := fun _ => none) (.of0 hv)
    rcases hs with ⟨_, hr⟩ | ⟨b, o', cap, u, hr, _⟩ | ⟨_, a, cap, hr⟩
    · exact use aN c1 rfl (by rw [hr]; exact .v _)
    · exact use _ (c2 _ cap) rfl (by rw [hr]; exact .v _)
    · exact use _ (c2 a cap) rfl (by rw [hr]; exact .v _)
end

/-- What a copy comes to. -/
def PClone {α : Type} (xs : List α) : Option (List α) := ck (decide (xs.length ≤ roomA)) (some xs)
theorem PClone_some {α : Type} {xs ys : List α} (h : PClone xs = some ys) : xs.length ≤ roomA ∧ ys = xs := by
  obtain ⟨h1, h2⟩ := ck_some h
  exact ⟨of_decide_eq_true h1, (Option.some.inj h2).symm⟩
theorem clone_spec {S : Seat} {id : Nat} {frz : Bool} {zero : List Value} {t : Ty} (h : Ok1 S id (cloneF frz t.z zero)) (xs : List t.den) (ys : List t.den) (hy : PClone xs = some ys) : (realRets S).ret id (encAL [.sl t] xs) (encA (.own t) ys) [] := by
  obtain ⟨h1, rfl⟩ := PClone_some hy
  exact clone_ret h (by rw [List.length_map]; exact h1)
/-! ### the instances -/

noncomputable def P76 (xs : List Int) : Option (List Int) := PClone xs
def tf76 : TFunc := cloneF false 1 [.int .i64 0]
noncomputable def k76 : CSpec := ⟨76, [.sl .int], .own .int, fun x => P76 x, false, []⟩
theorem r76 {S : Seat} (h : Ok1 S 76 tf76) : Rt S k76 := fun x y hy => clone_spec (t := .int) h x y hy
end Ab
