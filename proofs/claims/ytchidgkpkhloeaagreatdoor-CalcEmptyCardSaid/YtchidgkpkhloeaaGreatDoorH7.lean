import Derived.Test.YtchidgkpkhloeaaGreatDoorH5
import Derived.Test.YtchidgkpkhloeaaGreatDoorH3
import Derived.Test.YtchidgkpkhloeaaGreatDoorB2
import Derived.KernelRfl
import Derived.Test.YtchidgkpkhloeaaGreatDoorC2
section
namespace Ab
open Go Go.RowKit
set_option linter.unusedVariables false
set_option linter.unusedSimpArgs false
open Classical in
noncomputable def P351w (J : JP) (s : Solver) (p : List Int) : Option Cell := if s = J.s ∧ J.fit p then some (J.U (J.num p)) else none
noncomputable def k351w (J : JP) : CSpec := ⟨351, [.bx .solver, .sl .int], .st .cell, fun x => P351w J x.1 x.2, false, []⟩
theorem r351w {S : Seat} {J : JP} (h : ∀ n, Rt S (k351 J n)) : Rt S (k351w J) := fun (x : Solver × List Int) (y : Cell) hy => by
 have hy2 : P351w J x.1 x.2 = some y := hy
 refine h (J.rk x.2 + 1) x y ?_
 show P351 J (J.rk x.2 + 1) x.1 x.2 = some y
 unfold P351w at hy2
 unfold P351
 split at hy2
 ·rename_i c
  rw [if_pos ⟨c.1, c.2, Nat.lt_succ_self _⟩]
  exact hy2
 ·cases hy2
theorem P351w_JS {o : List Dim} {l : List Entry} (ok : RightC o l) {kb cb kc cc : Nat} {p : List Int} (hf : Fit o p) : P351w (JS o l kb cb kc cc) (JS o l kb cb kc cc).s p = some (sol o l p) := by
 unfold P351w
 rw [if_pos ⟨rfl, hf⟩]
 show some (sol o l (digs o (numN o p)).1) = _
 rw [num_digs ok.pos hf]
theorem use_plain {S : Seat} (hP : Plain S) {g id : Nat} (hg : assoc g S.fns = some id) {args : List AV} {r : AV} (h : (realRets S).ret id args r []) (hno : ∀ x ∈ args, isOwn x = false) {A : Nat → Prop} {w X : World} {vs : Array Value} (hl : vs.size = args.length)
    (hA : (∀ b, A b → b < w.heap.size) ∧ Inv S w) (hk : KeepO (fun _ => False) w X) (ha : ∀ (i : Nat) (x : AV), args[i]? = some x → VR0 S A w x (vs.getD i undef)) :
    Calls S.P g vs X fun e Y => ∃ v, e = .returned v ∧ KeepO (fun _ => False) X Y ∧ RetR S A X Y r v := by
 refine (((h g hg).old0 hP hno) A X vs hl ⟨fun b hb => Nat.lt_of_lt_of_le (hA.1 b hb) hk.size, hA.2.keep (fun _ _ h => h) hk⟩ fun i x hx => (ha i x hx).mono (fun _ h => h) fun b hb => hk.block b (hA.1 b hb) fun h => h)
theorem err_nil {S : Seat} {A : Nat → Prop} {w : World} {v : Value} (h : VR0 S A w (Err.av .nil) v) : v = .nilIface := VR.v_inv (σ := fun _ => none) (.of0 h)
theorem err_some {S : Seat} {A : Nat → Prop} {w : World} {e : Err} {v : Value} (he : e ≠ .nil) (h : VR0 S A w e.av v) : ∃ T u, v = .iface T u := by
 cases e with
 | nil => exact absurd rfl he
 | no n => obtain ⟨T, u, rfl, _⟩ := VR.ifc_inv (σ := fun _ => none) (.of0 (show VR0 S A w (.ifc 1 (aI n)) v from h)); exact ⟨T, u, rfl⟩
 | oth t => obtain ⟨T, u, rfl, _⟩ := VR.ifc_inv (σ := fun _ => none) (.of0 (show VR0 S A w (.ifc t .bot) v from h)); exact ⟨T, u, rfl⟩
theorem ret_err {S : Seat} {A : Nat → Prop} {X Y : World} {e : Err} {v : Value} (h : RetR S A X Y e.av v) : VR0 S (After A (fun _ => none) X Y) Y e.av v := by
 obtain ⟨β, h1, _, hp⟩ := h
 have : ArgR S (After A β X Y) Y (β 0) e.av v := by cases e <;> exact hp
 have : VR0 S (After A β X Y) Y e.av v := by cases e <;> exact this.2
 exact this.mono (fun b hb => ⟨hb.1, hb.2.1, by simp⟩) fun _ _ => rfl
open Classical in
noncomputable def P332 (o : List Dim) (l : List Entry) : Option (List Cell × Err) :=
 if Lst Entry.gd l then (match P349 o l with
  | some .nil => some ((List.range (sizeN o)).map fun k => sol o l (digs o k).1, .nil)
  | some e => some ([], e)
  | none => none) else none
noncomputable def k332 : CSpec := ⟨332, [.st .outl, .sl .entry], .tp [.sl .cell, .err], fun x => P332 x.1 x.2, false, []⟩
abbrev K0' (W X : World) : Prop := KeepO (fun _ => False) W X
def AllAt (S : Seat) : Prop := ∀ g, assoc g S.fns = some 332 → ∃ g349 g350 fn350 fn rest, assoc g349 S.fns = some 349 ∧ S.P.funcs[g350]? = some fn350 ∧ cFunc S 350 fn350 = some tf350.er ∧ fn350.results = #[.tmp 4, .tmp 5] ∧ (∀ J, cCode (seatJ S J) fn.ntmps rest = some tf1332.body.er) ∧
 optAll (cRes S.P) fn.results.toList = some tf1332.res ∧ fn.ntmps = 41 ∧
 (∀ {u0 l : Value} {W : World} {R : Ending → World → Prop} {N : World → World → Value → Prop}, u0.oneCell' = true →
  (∀ X, K0' W X → Calls S.P g349 #[.agg #[u0], l] X fun e Y => e = .returned .nilIface ∧ K0' X Y) →
  (∀ X, K0' W X → W.heap.size < X.heap.size → Calls S.P g350 #[.agg #[u0], l] X fun e Y => ∃ pv, e = .returned (.tuple #[pv, .nilIface]) ∧ K0' X Y ∧ N X Y pv) →
  (∀ X Y pv tm, K0' W X → W.heap.size < X.heap.size → K0' X Y → N X Y pv → X.cell? ⟨W.heap.size, 0, none⟩ = some u0 → tm.size = 41 → tm.getD 2 undef = .pointer (some ⟨W.heap.size, 0, none⟩) → tm.getD 1 undef = l → tm.getD 7 undef = pv →
   rest.wp S.P (bodyPost S.P fn R) { tmps := tm, defers := [] } Y) → Calls S.P g #[.agg #[u0], l] W R) ∧
 (∀ {u0 l : Value} {W : World} {R : Ending → World → Prop}, u0.oneCell' = true →
  (∀ X, K0' W X → Calls S.P g349 #[.agg #[u0], l] X fun e Y => ∃ T v, e = .returned (.iface T v) ∧ K0' X Y ∧ R (.returned (.tuple #[.slice none 0 0, .iface T v])) Y) → Calls S.P g #[.agg #[u0], l] W R)
theorem ret_two {S : Seat} {A : Nat → Prop} {w X Z : World} {x : AV} {e : Err} {a b : Value} (hx : isOwn x = false) (ha : VR0 S (After A (fun _ => none) w Z) Z x a) (he : VR0 S (After A (fun _ => none) w Z) Z e.av b) : RetR S A w Z (.tup [x, e.av]) (.tuple #[a, b]) := by
 refine ⟨fun _ => none, by simp, by simp, #[a, b], rfl, rfl, fun i y hy => ?_⟩
 match i, hy with
 | 0, hy => cases hy; exact argR_of0 ha
 | 1, hy => cases hy; exact argR_of0 he
 | i + 2, hy => simp at hy
theorem after_ext {A : Nat → Prop} {w X Z : World} (h1 : w.heap.size ≤ X.heap.size) : ∀ b, After A (fun _ => none) X Z b → After A (fun _ => none) w Z b := fun b ⟨h, h2, h3⟩ => ⟨h.imp id (Nat.le_trans h1), h2, h3⟩
end Ab
end
section
namespace Ab
open Go
set_option linter.unusedVariables false
set_option linter.unusedSimpArgs false
noncomputable def cubeE (o : List Dim) (l : List Entry) : Int := if (allE o).2.2 = 0 then entsE o l else (allE o).2.2
theorem P349_eq {o : List Dim} {l : List Entry} (hl : Lst Entry.gd l) : P349 o l = some (errOf (cubeE o l)) := by
 simp only [P349, S349, P352_eq, bno_s, errOf_nil, P27_eq o l hl]
 unfold cubeE
 by_cases h : (allE o).2.2 = 0
 ·rw [if_pos h, decide_eq_true h]; rfl
 ·rw [if_neg h, decide_eq_false h]; rfl
theorem cube_ok {o : List Dim} {l : List Entry} (hl : Lst Entry.gd l) : cubeE o l = 0 ↔ RightC o l := by
 unfold cubeE
 by_cases h : (allE o).2.2 = 0
 ·rw [if_pos h]
  exact ⟨fun h2 => ⟨allE_zero.1 h, ents_ok.1 h2, hl⟩, fun h2 => ents_ok.2 h2.ents⟩
 ·rw [if_neg h]
  exact ⟨fun h2 => absurd h2 h, fun h2 => absurd (allE_zero.2 h2.cube) h⟩
theorem errOf_zero {e : Int} : errOf e = .nil ↔ e = 0 := by unfold errOf; split <;> simp_all
theorem take_add {α : Type} {L : List α} {i : Nat} {a : α} (h : L[i]? = some a) : L.take i ++ [a] = L.take (i + 1) := by
 obtain ⟨hi, rfl⟩ := List.getElem?_eq_some_iff.1 h
 rw [List.take_succ_eq_append_getElem hi]
section
variable {o : List Dim} {l : List Entry} (ok : RightC o l)
include ok
theorem new_inner {γ : Type} {d : Dim} (hd : d ∈ o) : lpO (S350_L1 P355 d) (([] : List (Option (List Node))), (0 : Int)) = some (.inl ((List.range d.members.length).map (fmM d), (d.members.length : Int))) := by
 have hlen := ok.most d hd
 have hru := ok.cube.rules d hd
 generalize hL : (List.range d.members.length).map (fmM d) = L
 have hLl : L.length = d.members.length := by rw [← hL]; simp
 have hs := seq_loop (B := S350_L1 P355 d) (fun j => (L.take j, (j : Int))) d.members.length (fun j hj => by
  have hm := List.getElem?_eq_getElem hj
  have e4 : wi ((j : Int) + 1) = ((j + 1 : Nat) : Int) := by rw [wiid (by omega) (by omega)]; omega
  have hlj : L[j]? = some (fmM d j) := by rw [← hL, List.getElem?_map, List.getElem?_range hj]; rfl
  have hp : P355 d (j : Int) = some (fmM d j, .nil) := by
   rw [P355_eq hm]
   unfold fmM
   rw [hm]
   simp only
   split
   ·rfl
   ·rename_i hfo
    rw [rules_form hru hm hfo]
    rfl
  simp only [S350_L1]
  rw [br_dec, if_pos (by omega)]
  have hck : (L.take j).length + [fmM d j].length ≤ roomA := by simp only [List.length_take, List.length_singleton]; unfold roomA; omega
  simp only [hp, bno_s, nil_isNil, Bool.not_true, br_false, ck_pos hck, nxO_s, e4, take_add hlj])
 rw [show (([] : List (Option (List Node))), (0 : Int)) = (L.take 0, ((0 : Nat) : Int)) by rfl, hs, lpO_dn (y := (L.take d.members.length, (d.members.length : Int))) (by simp only [S350_L1]; rw [br_dec, if_neg (by omega)]; rfl)]
 rw [← hLl, List.take_length]
theorem S350_eq : S350 P355 P40 o l = some (o, l, fmL o, List.replicate (sizeN o) false, List.replicate (sizeN o) ⟨0, 0⟩) := by
 have hlen := ok.cube.out.len
 obtain ⟨h1, h2⟩ := ok.cube.out.sizeN
 simp only [S350, P40_eq o (by omega), h1, bno_s]
 have hr : (0 : Int) ≤ ((sizeN o : Nat) : Int) ∧ ((sizeN o : Nat) : Int) ≤ ((sizeN o : Nat) : Int) ∧ ((sizeN o : Nat) : Int) ≤ roomA := ⟨by omega, Int.le_refl _, by unfold roomA; omega⟩
 simp only [ck_pos hr, Int.toNat_natCast]
 generalize hK : List.replicate (sizeN o) false = K
 generalize hC : List.replicate (sizeN o) (Cell.mk (0 : Int) (0 : Int)) = C
 have hfl : (fmL o).length = o.length := by unfold fmL; simp
 have hs := seq_loop (B := S350_L2 P355 o) (fun i => ((i : Int), (o, l, (fmL o).take i, K, C))) o.length (fun i hi => by
  have hd := List.getElem?_eq_getElem hi
  have e4 : wi ((i : Int) + 1) = ((i + 1 : Nat) : Int) := by rw [wiid (by omega) (by omega)]; omega
  simp only [S350_L2]
  rw [br_dec, if_pos (by omega)]
  simp only [lookI_nat, hd, bno_s]
  rw [lp_eq, new_inner (γ := Unit) ok (List.getElem_mem hi)]
  have hck : ((fmL o).take i).length + [(List.range (o[i]).members.length).map (fmM o[i])].length ≤ roomA := by simp only [List.length_take, List.length_singleton]; unfold roomA; omega
  simp only [jn_l, ck_pos hck, nxO_s, e4, take_add (fmL_get hd)])
 rw [lp_eq, show ((0 : Int), (o, l, ([] : List (List (Option (List Node)))), K, C)) = (((0 : Nat) : Int), (o, l, (fmL o).take 0, K, C)) from rfl, hs, lpO_dn (y := ((o.length : Int), (o, l, (fmL o).take o.length, K, C))) (by simp only [S350_L2]; rw [br_dec, if_neg (by omega)]; rfl)]
 simp only [jn_l]
 rw [← hfl, List.take_length]
theorem S1332_eq {F : Solver → List Int → Option Cell} {s : Solver} (hF : ∀ p, Fit o p → F s p = some (sol o l p)) : S1332 F P40 P69 o s = some ((List.range (sizeN o)).map fun k => sol o l (digs o k).1, .nil) := by
 have hlen := ok.cube.out.len
 obtain ⟨h1, h2⟩ := ok.cube.out.sizeN
 simp only [S1332, P40_eq o (by omega), h1, bno_s]
 generalize hL : (List.range (sizeN o)).map (fun k => sol o l (digs o k).1) = L
 have hLl : L.length = sizeN o := by rw [← hL]; simp
 have hs := seq_loop (B := S1332_L1 F P69 o s ((sizeN o : Nat) : Int)) (fun i => (L.take i, (i : Int))) (sizeN o) (fun i hi => by
  have e4 : wi ((i : Int) + 1) = ((i + 1 : Nat) : Int) := by rw [wiid (by omega) (by omega)]; omega
  have hlj : L[i]? = some (sol o l (digs o i).1) := by rw [← hL, List.getElem?_map, List.getElem?_range hi]; rfl
  simp only [S1332_L1]
  rw [br_dec, if_pos (by omega)]
  have hck : (L.take i).length + [sol o l (digs o i).1].length ≤ roomA := by simp only [List.length_take, List.length_singleton]; unfold roomA; omega
  have hp := P69_eq o i (by omega) (by omega) (fun d hd => ⟨ok.pos d hd, by have := ok.most d hd; omega⟩)
  simp only [hp, bno_s, hF _ (digs_fit ok.cube.out i), ck_pos hck, nxO_s, e4, take_add hlj])
 rw [lp_eq, show (([] : List Cell), (0 : Int)) = (L.take 0, ((0 : Nat) : Int)) from rfl, hs, lpO_dn (y := (L.take (sizeN o), ((sizeN o : Nat) : Int))) (by simp only [S1332_L1]; rw [br_dec, if_neg (by omega)]; rfl)]
 simp only [jn_l]
 rw [← hLl, List.take_length]
end
end Ab
end
section
namespace Ab
open Go Go.RowKit
set_option linter.unusedVariables false
set_option linter.unusedSimpArgs false
structure JKnows (S : Seat) (J : JP) : Prop where
 at_ : Rt (seatJ S J) (k351w J)
 size : Rt (seatJ S J) k40
 place : Rt (seatJ S J) k69
theorem arg_o {S : Seat} {A : Nat → Prop} {w : World} {o : List Dim} {v : Value} (h : VR0 S A w (.agg [.sl 3 (o.map Dim.cs)]) v) : ∃ u, v = .agg #[u] ∧ VR0 S A w (.sl 3 (o.map Dim.cs)) u ∧ u.oneCell' = true := by
 obtain ⟨us, rfl, hl, hu⟩ := VR.agg_inv (σ := fun _ => none) (.of0 h)
 have h0 := hu 0 _ rfl
 obtain ⟨u, rfl⟩ : ∃ u, us = #[u] := ⟨us[0]'(by simp at hl; omega), by
  apply Array.ext
  ·simpa using hl.symm
  ·intro i h1 h2
   obtain rfl : i = 0 := by simp at h2; omega
   rfl⟩
 exact ⟨u, rfl, h0.to0 rfl, VR.cell1 h0 rfl⟩
section
variable {S : Seat} (hS : Callable S) (hP : Plain S) (h349 : Rt S k349) (h355 : Rt S k355) (h40 : Rt S k40)
include hS hP h349 h355 h40
omit h349 in
theorem new_plain {o : List Dim} {l : List Entry} (ok : RightC o l) {g350 : Nat} {fn350 : Func} (hg : S.P.funcs[g350]? = some fn350) (hc : cFunc S 350 fn350 = some tf350.er) (hres : fn350.results = #[.tmp 4, .tmp 5]) {A AX : Nat → Prop} {w X : World} {u0 v1 : Value} (hA : (∀ b, A b → b < w.heap.size) ∧ Inv S w)
    (a0 : VR0 S A w (.sl 3 (o.map Dim.cs)) u0) (a1 : VR0 S A w (.sl 2 (l.map Entry.cs)) v1) (hX : KeepO (fun _ => False) w X) (hAX : ∀ b, A b → AX b) (hlt : ∀ b, AX b → b < X.heap.size) :
    Calls S.P g350 #[.agg #[u0], v1] X fun e Y => ∃ pv, e = .returned (.tuple #[pv, .nilIface]) ∧ KeepO (fun _ => False) X Y ∧ ∃ kb cb kc cc A', kb ≠ cb ∧ Inv S X ∧ NewIs S AX X Y pv (JS o l kb cb kc cc).s A' (List.replicate (sizeN o) false) (List.replicate (sizeN o) ⟨0, 0⟩) := by
 have hw : ∀ b, A b → X.heap[b]? = w.heap[b]? := fun b hb => hX.block b (hA.1 b hb) fun e => e
 have hi : Inv S X := hA.2.keep (fun _ _ h => h) hX
 have hn : 0 < sizeN o := by
  have := digs_fit ok.cube.out 0
  exact Nat.lt_of_le_of_lt (Nat.zero_le _) (num_lt this)
 refine (new_sound hS h355 h40 hg hc hres (S350_eq ok) (by simpa using hn) (by simp) (A := AX) (w := X) (vs := #[.agg #[u0], v1]) rfl ⟨hlt, hi⟩ (.none hP.g hP.n _ _ _) fun i z hz => ?_).mono ?_
 ·match i, hz with
  | 0, hz =>
   cases hz
   exact .agg rfl fun j y hy => by
    match j, hy with
    | 0, hy => cases hy; exact a0.mono hAX hw
    | j + 1, hy => have hy : ([AV.sl 3 (o.map Dim.cs)] : List AV)[j + 1]? = some y := hy; simp at hy
  | 1, hz => cases hz; exact a1.mono hAX hw
  | i + 2, hz => simp [encAL] at hz
 ·rintro e Y ⟨v, s, A', he, hk, _, rfl, rfl, hf, hsn, hnew⟩
  have hk0 : KeepO (fun _ => False) X Y := ⟨hk.os, hk.tape, hk.output, hk.size, fun b hb _ => hk.block b hb (hP.g b)⟩
  refine ⟨v, he, hk0, s.kb, s.cb, s.kc, s.cc, A', hnew.ne, hi, ?_⟩
  have : (JS s.o s.l s.kb s.cb s.kc s.cc).s = s := by
   obtain ⟨so, sl, sf, kb, cb, kc, cc, n⟩ := s
   have hn' : n = (List.replicate (sizeN so) false).length := hsn
   rw [List.length_replicate] at hn'
   subst hn'
   simp only at hf
   subst hf
   rfl
  rw [this]
  exact hnew
theorem r332 (hJ : ∀ J, JOk J → JKnows S J) (hat : AllAt S) : Rt S k332 := fun (x : List Dim × List Entry) (y : List Cell × Err) hy => by
 obtain ⟨o, l⟩ := x
 have hy2 : P332 o l = some y := hy
 clear hy
 unfold P332 at hy2
 split at hy2
 ·rename_i hl
  rw [P349_eq hl] at hy2
  intro g hg
  obtain ⟨g349, g350, fn350, fn, rest, hg349, hg350, hc350, hres350, hcode, hres, hnt, walk, err⟩ := hat g hg
  have ar : ∀ {z : Err} , P349 o l = some z → (realRets S).ret 349 [.agg [.sl 3 (o.map Dim.cs)], .sl 2 (l.map Entry.cs)] z.av [] := fun {z} hz => h349 (o, l) z hz
  show RealM S g [.agg [.sl 3 (o.map Dim.cs)], .sl 2 (l.map Entry.cs)] (.tup [.sl 2 (y.1.map Cell.cs), y.2.av]) []
  refine realM_ofJ (fun A w vs hvl hA hJR ha => ?_) (by simp [isOwn])
  obtain ⟨v0, v1, rfl⟩ := two_args hvl
  obtain ⟨u0, rfl, a0, one⟩ := arg_o (show VR0 S A w (.agg [.sl 3 (o.map Dim.cs)]) v0 from ha 0 _ rfl)
  have a1 : VR0 S A w (.sl 2 (l.map Entry.cs)) v1 := ha 1 _ rfl
  have use := fun {z : Err} (hz : P349 o l = some z) (X : World) (hX : KeepO (fun _ => False) w X) => use_plain hP hg349 (ar hz) (by simp [isOwn]) (A := A) (w := w) (X := X) (vs := #[.agg #[u0], v1]) rfl hA hX ha
  have fin : ∀ {Z : World} {v : Value}, KeepO (fun _ => False) w Z → KeepO S.jg w Z ∧ S.jn Z := fun h => ⟨⟨h.os, h.tape, h.output, h.size, fun b hb _ => h.block b hb fun e => e⟩, hP.n _⟩
  by_cases hz : cubeE o l = 0
  ·have ok := (cube_ok hl).1 hz
   have hn : P349 o l = some .nil := by rw [P349_eq hl, hz]; rfl
   rw [hz, show errOf 0 = Err.nil from rfl] at hy2
   obtain rfl := Option.some.inj hy2
   refine walk (N := fun X Y pv => ∃ kb cb kc cc A', kb ≠ cb ∧ Inv S X ∧ NewIs S (fun b => A b ∨ b = w.heap.size) X Y pv (JS o l kb cb kc cc).s A' (List.replicate (sizeN o) false) (List.replicate (sizeN o) ⟨0, 0⟩)) one (fun X hX => (use hn X hX).mono ?_) (fun X hX hlt => ?_) ?_
   ·rintro e Y ⟨v, rfl, hk, hr⟩
    exact ⟨by rw [err_nil (ret_err hr)], hk⟩
   ·exact new_plain hS hP h355 h40 ok hg350 hc350 hres350 hA a0 a1 hX (fun b hb => .inl hb) fun b hb => by
      rcases hb with hb | rfl
      ·exact Nat.lt_of_lt_of_le (hA.1 b hb) hX.size
      ·exact hlt
   ·rintro X Y pv tm hX hlt hXY ⟨kb, cb, kc, cc, A', hne, hi, hnew⟩ hc0 hsz t2 t1 t7
    have jk := hJ (JS o l kb cb kc cc) (jok ok hne)
    obtain ⟨jr, jA, jI⟩ := hnew.jr (J := JS o l kb cb kc cc) rfl (by simp [JS]) hi hXY
    have hrun : tf1332.runFrom [k351w (JS o l kb cb kc cc), k40, k69] { fr := [(2, enc (.bx .outl) o), (7, enc (.bx .solver) (JS o l kb cb kc cc).s)], hp := [], ctr := 1 } (.tp [.sl .cell, .err]) = some ((List.range (sizeN o)).map fun k => sol o l (digs o k).1, .nil) :=
     (s1332 (P351w (JS o l kb cb kc cc)) P40 P69 o (JS o l kb cb kc cc).s).trans (S1332_eq ok fun p hf => P351w_JS ok hf)
    refine wp_mono (rest_sound (S := seatJ S (JS o l kb cb kc cc)) (C := [k351w (JS o l kb cb kc cc), k40, k69]) hS (.cons jk.at_ (.cons jk.size (.cons jk.place .nil))) (hcode _) hres rfl rfl rfl hrun (by rw [hsz, hnt]) ⟨jA, jI⟩ jr fun k => ?_) fun ex a Z h => h.body fun v hk hj hr => ⟨v, rfl, (fin (v := v) ?_).1, (fin (Z := Z) (v := v) ?_).2, ret_end hr (fun x hx => ?_) ?_⟩
    ·by_cases k2 : k = 2
     ·subst k2
      rw [t2]
      show VR0 _ A' Y (.ep [.sl 3 (o.map Dim.cs)] 0) _
      refine .ep (b := w.heap.size) (o := 0) (u := fun _ => u0) (hnew.sub _ (.inr rfl)) (fun j hj => ?_) fun j x hx => ?_
      ·obtain rfl : j = 0 := by simp at hj; omega
       exact (World.cell?_of_block (a := ⟨w.heap.size, 0, none⟩) (hXY.block _ hlt fun e => e)).trans hc0
      ·match j, hx with
       | 0, hx =>
        cases hx
        exact (a0.mono (fun b hb => hnew.sub b (.inl hb)) fun b hb => (hXY.block b (Nat.lt_of_lt_of_le (hA.1 b hb) hX.size) fun e => e).trans (hX.block b (hA.1 b hb) fun e => e)).toJ
       | j + 1, hx => simp at hx
     ·by_cases k7 : k = 7
      ·subst k7
       rw [t7]
       exact hnew.rel.toJ
      ·have : look k TV.bot [(2, enc (.bx .outl) o), (7, enc (.bx .solver) (JS o l kb cb kc cc).s)] = .bot := by
         simp only [look]
         rw [show Nat.beq 2 k = false from by rw [← Bool.not_eq_true]; exact fun e => k2 (Nat.eq_of_beq_eq_true e).symm, show Nat.beq 7 k = false from by rw [← Bool.not_eq_true]; exact fun e => k7 (Nat.eq_of_beq_eq_true e).symm]
       show VR0 _ A' Y (av [] (lv [] (look k TV.bot [(2, enc (.bx .outl) o), (7, enc (.bx .solver) (JS o l kb cb kc cc).s)]))) _
       rw [this]
       exact .bot _
    ·exact keep_end (J := JS o l kb cb kc cc) (hX.trans hXY) hk (Nat.le_trans hX.size hnew.bk.1) (Nat.le_trans hX.size hnew.bc.1)
    ·exact keep_end (J := JS o l kb cb kc cc) (hX.trans hXY) hk (Nat.le_trans hX.size hnew.bk.1) (Nat.le_trans hX.size hnew.bc.1)
    ·rcases (hnew.lt x hx).2 with (h | rfl) | h
     ·exact .inl h
     ·exact .inr (Nat.le_refl _)
     ·exact .inr (Nat.le_trans hX.size h)
    ·exact Nat.le_trans hX.size hXY.size
  ·have he : errOf (cubeE o l) ≠ .nil := fun h => hz (errOf_zero.1 h)
   obtain rfl : y = ([], errOf (cubeE o l)) := by
    revert hy2
    generalize errOf (cubeE o l) = e at he
    cases e <;> simp_all
   refine err one fun X hX => (use (P349_eq hl) X hX).mono ?_
   rintro e Z ⟨v, rfl, hk, hr⟩
   have hv := ret_err hr
   obtain ⟨T, u, rfl⟩ := err_some he hv
   have hZ := hX.trans hk
   exact ⟨T, u, rfl, hk, _, rfl, (fin (v := v1) hZ).1, hP.n _, ret_two (X := X) rfl (.slnil 2) (hv.mono (after_ext hX.size) fun _ _ => rfl)⟩
 ·cases hy2
end
end Ab
end
section
namespace Ab
open Go
set_option linter.unusedVariables false
set_option maxRecDepth 100000
def tc333 : TCode :=
 .seq (.region [
 oq 2 (.box (.t 0)),
 oq 4 (.mov (.c (.slice none 0 0))),
 oq 5 (.mov (.c (.nilIface)))] [] false)
  (.seq (.region [
 oq 12 (.load (some 1) (.t 2)),
 oq 13 (.mov (.t 1)),
 oq 14 (.call true [] 332 [(.t 12), (.t 13)]),
 oq 11 (.mov (.t 14)),
 oq 15 (.ext (.t 11) 0),
 oq 16 (.ext (.t 11) 1),
 oq 6 (.mov (.t 15)),
 oq 7 (.mov (.t 16))] [] false)
  (.seq (.seq (.region [
 oq 17 (.mov (.t 7)),
 oq 18 (.eqn false true (.t 17))] [] false)
  (.cond (.t 18)
   (.seq (.region [
 oq 19 (.mov (.t 7)),
 oq 4 (.mov (.c (.slice none 0 0))),
 oq 5 (.mov (.t 19))] [] false)
    (.ret))
    (.skip)))
  (.seq (.region [
 oq 8 (.mov (.c (.slice none 0 0)))] [] false)
  (.seq (.seq (.region [
 oq 20 (.mov (.t 6)),
 oq 21 (.len false (.t 20)),
 oq 22 (.mov (.c (.int .i64 0)))] [] false)
  (.loop ⟨[.row 8 35 (.sl .int), .slot 22 .int], [9, 10, 23, 24, 25, 26, 27, 28, 29, 30, 31, 32, 33, 34, 35, 36], [10, 34], []⟩ 0 (.seq (.region [
 oq 23 (.bin .int .lss (.t 22) (.t 21))] [] false)
    (.seq (.cond (.t 23)
     (.skip)
     (.exit 0))
    (.seq (.block 1 (.seq (.region [
 oq 24 (.mov (.t 22)),
 oq 25 (.ia 2 (.t 20) (.t 22)),
 oq 26 (.load (some 2) (.t 25)),
 oq 10 (.alloc [.int .i64 0, .int .i64 0]),
 oq 9 (.mov (.t 24)),
  ⟨none, .store 2 (.t 10) (.t 26), none, []⟩] [] false)
      (.seq (.region [
 oq 27 (.fa 0 (.t 10)),
 oq 28 (.load none (.t 27)),
 oq 29 (.bin .int .eql (.t 28) (.c (.int .i64 2)))] [] false)
      (.condJ ⟨[.row 8 35 (.sl .int)], [30, 31, 32, 33, 34, 35], [34], []⟩ (.t 29)
       (.region [
 oq 30 (.mov (.t 8)),
 oq 31 (.load (some 1) (.t 2)),
 oq 32 (.mov (.t 9)),
 oq 33 (.call true [] 69 [(.t 31), (.t 32)]),
 oq 34 (.bslice true 1 [.slice none 0 0] 1 [(0, (.t 33))]),
 oq 35 (.app 1 (.t 30) (.t 34)),
 oq 8 (.mov (.t 35))] [.int, .int, .int, .int, (.sl .int), (.sl .int)] false)
        (.skip)))))
    (.region [
 oq 36 (.bin .int .add (.t 22) (.c (.int .i64 1))),
 oq 22 (.mov (.t 36))] [] false))))))
  (.seq (.region [
 oq 37 (.mov (.t 8)),
 oq 4 (.mov (.t 37)),
 oq 5 (.mov (.c (.nilIface)))] [] false)
  (.ret))))))
def tf333 : TFunc := { np := 2, nt := 38, res := [.tmp 4, .tmp 5], own := false, body := tc333 }
noncomputable def S333_L1 (F69 : (List Dim) → Int → (Option (List Int))) (a0 : (List Dim)) (y1 : ((List Cell) × Err)) (x2 : ((List (List Int)) × Int)) : Option (LR ((List (List Int)) × Int) ((List (List Int)) × Err)) :=
 br (decide (x2.2 < ((List.length y1.1 : Nat) : Int)))
 (bno (lookI y1.1 x2.2) fun y3 =>
 jn (σ := (List (List Int))) (α := (LR ((List (List Int)) × Int) ((List (List Int)) × Err))) (br (decide ((Cell.k y3) = (2 : Int)))
 (bno (F69 a0 x2.2) fun y4 =>
 ck (decide (List.length x2.1 + List.length ([y4] : List (List Int)) ≤ roomA)) <|
 inlO (some (x2.1 ++ ([y4] : List (List Int)))))
 (inlO (some x2.1))) fun x5 =>
 nxO (some (x5, wi (x2.2 + (1 : Int)))))
 (dnO (some (x2.1, x2.2)))
noncomputable def S333 (F332 : (List Dim) → (List Entry) → (Option ((List Cell) × Err))) (F69 : (List Dim) → Int → (Option (List Int))) (a0 : (List Dim)) (a1 : (List Entry)) : Option ((List (List Int)) × Err) :=
 bno (F332 a0 a1) fun y1 =>
 br (!(Err.isNil y1.2))
 (some (([] : List (List Int)), y1.2))
 (lp (S333_L1 F69 a0 y1) (([] : List (List Int)), (0 : Int)) fun x6 =>
 some (x6.1, Err.nil))
theorem s333 (F332 : (List Dim) → (List Entry) → (Option ((List Cell) × Err))) (F69 : (List Dim) → Int → (Option (List Int))) (a0 : (List Dim)) (a1 : (List Entry)) : tf333.run [⟨332, [(.st .outl), (.sl .entry)], (.tp [(.sl .cell), .err]), fun x => F332 x.1 x.2, false, []⟩,
 ⟨69, [(.st .outl), .int], (.sl .int), fun x => F69 x.1 x.2, false, []⟩] [(.st .outl), (.sl .entry)] (.tp [(.sl (.sl .int)), .err]) (a0, a1) = S333 F332 F69 a0 a1 := by kernel_rfl
noncomputable def P333 (a0 : (List Dim)) (a1 : (List Entry)) : Option ((List (List Int)) × Err) := S333 P332 P69 a0 a1
noncomputable def k333 : CSpec := ⟨333, [(.st .outl), (.sl .entry)], (.tp [(.sl (.sl .int)), .err]), fun x => P333 x.1 x.2, false, []⟩
theorem r333 {S : Seat} (h : Ok1 S 333 tf333) (h332 : Rt S k332) (h69 : Rt S k69) : Rt S k333 := fun x y hy =>
 Ok1.sound h (C := [k332, k69]) (CSound.cons h332 (CSound.cons h69 CSound.nil)) rfl rfl rfl ((s333 P332 P69 x.1 x.2).trans hy) rfl
end Ab
end
