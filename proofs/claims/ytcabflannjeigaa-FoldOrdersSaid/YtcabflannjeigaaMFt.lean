/-
  Functions of the program as typed code, what they come to, and their contracts: written by program (mk.py).
-/
import Derived.Test.YtcabflannjeigaaB2
import Derived.KernelRfl
import Derived.Test.YtcabflannjeigaaMFo
import Derived.Test.YtcabflannjeigaaC3
import Derived.Test.YtcabflannjeigaaMRc
import Derived.Test.YtcabflannjeigaaMSo
namespace Ab
open Go
set_option linter.unusedVariables false
set_option maxRecDepth 100000

/- tallyhall/fold.All -/
def tc209 : TCode :=
  .seq (.region [
  ⟨some 3, .box (.t 0), none, []⟩,
  ⟨some 6, .mov (.c (.slice none 0 0)), none, []⟩,
  ⟨some 7, .mov (.c (.nilIface)), none, []⟩] [] false)
  (.seq (.region [
  ⟨some 16, .load (some 1) (.t 3), none, []⟩,
  ⟨some 17, .mov (.t 1), none, []⟩,
  ⟨some 18, .call true [] 21 [(.t 16), (.t 17)], none, []⟩,
  ⟨some 15, .mov (.t 18), none, []⟩,
  ⟨some 19, .ext (.t 15) 0, none, []⟩,
  ⟨some 20, .ext (.t 15) 1, none, []⟩,
  ⟨some 8, .mov (.t 19), none, []⟩,
  ⟨some 9, .mov (.t 20), none, []⟩] [] false)
  (.seq (.seq (.region [
  ⟨some 21, .mov (.t 9), none, []⟩,
  ⟨some 22, .eqn false true (.t 21), none, []⟩] [] false)
  (.cond (.t 22)
    (.seq (.region [
  ⟨some 23, .mov (.t 9), none, []⟩,
  ⟨some 6, .mov (.c (.slice none 0 0)), none, []⟩,
  ⟨some 7, .mov (.t 23), none, []⟩] [] false)
    (.ret))
    (.skip)))
  (.seq (.region [
  ⟨some 24, .mov (.t 2), none, []⟩,
  ⟨some 25, .call true [] 211 [(.t 24)], none, []⟩,
  ⟨some 26, .call true [] 210 [(.t 25)], none, []⟩,
  ⟨some 10, .mov (.t 26), none, []⟩] [] false)
  (.seq (.seq (.region [
  ⟨some 27, .mov (.t 10), none, []⟩,
  ⟨some 28, .len false (.t 27), none, []⟩,
  ⟨some 29, .mov (.c (.int .i64 0)), none, []⟩] [] false)
  (.loop ⟨[.slot 29 .int], [11, 12, 30, 31, 32, 33, 34, 35, 36, 38], [], []⟩ 0 (.seq (.region [
  ⟨some 30, .bin .int .lss (.t 29) (.t 28), none, []⟩] [] false)
    (.seq (.cond (.t 30)
      (.skip)
      (.exit 0))
    (.seq (.block 1 (.seq (.region [
  ⟨some 31, .mov (.t 29), none, []⟩,
  ⟨some 32, .ia 1 (.t 27) (.t 29), none, []⟩,
  ⟨some 33, .load none (.t 32), none, []⟩,
  ⟨some 11, .mov (.t 31), none, []⟩,
  ⟨some 12, .mov (.t 33), none, []⟩] [] false)
      (.seq (.region [
  ⟨some 34, .mov (.t 12), none, []⟩,
  ⟨some 35, .mov (.t 11), none, []⟩,
  ⟨some 36, .bin .int .neq (.t 34) (.t 35), none, []⟩] [] false)
      (.cond (.t 36)
        (.seq (.region [
  ⟨some 37, .ifc 1 (.c (.int .i64 3)), none, []⟩,
  ⟨some 6, .mov (.c (.slice none 0 0)), none, []⟩,
  ⟨some 7, .mov (.t 37), none, []⟩] [] false)
        (.ret))
        (.skip)))))
    (.region [
  ⟨some 38, .bin .int .add (.t 29) (.c (.int .i64 1)), none, []⟩,
  ⟨some 29, .mov (.t 38), none, []⟩] [] false))))))
  (.seq (.seq (.region [
  ⟨some 39, .mov (.t 10), none, []⟩,
  ⟨some 40, .len false (.t 39), none, []⟩,
  ⟨some 41, .fa 0 (.t 3), none, []⟩,
  ⟨some 42, .load none (.t 41), none, []⟩,
  ⟨some 43, .len false (.t 42), none, []⟩,
  ⟨some 44, .bin .int .neq (.t 40) (.t 43), none, []⟩] [] false)
  (.cond (.t 44)
    (.seq (.region [
  ⟨some 45, .ifc 1 (.c (.int .i64 3)), none, []⟩,
  ⟨some 6, .mov (.c (.slice none 0 0)), none, []⟩,
  ⟨some 7, .mov (.t 45), none, []⟩] [] false)
    (.ret))
    (.skip)))
  (.seq (.seq (.region [
  ⟨some 46, .mov (.t 2), none, []⟩,
  ⟨some 47, .len false (.t 46), none, []⟩,
  ⟨some 48, .mov (.c (.int .i64 0)), none, []⟩] [] false)
  (.loop ⟨[.slot 48 .int, .rowH 10018 .cell], [14, 49, 50, 51, 52, 53, 54, 55, 56], [], []⟩ 2 (.seq (.region [
  ⟨some 49, .bin .int .lss (.t 48) (.t 47), none, []⟩] [] false)
    (.seq (.cond (.t 49)
      (.skip)
      (.exit 2))
    (.seq (.block 3 (.seq (.region [
  ⟨some 50, .ia 1 (.t 46) (.t 48), none, []⟩,
  ⟨some 51, .load none (.t 50), none, []⟩,
  ⟨some 14, .mov (.t 51), none, []⟩] [] false)
      (.region [
  ⟨some 52, .load (some 1) (.t 3), none, []⟩,
  ⟨some 53, .mov (.t 8), none, []⟩,
  ⟨some 54, .mov (.t 14), none, []⟩,
  ⟨some 55, .call false [1] 54 [(.t 52), (.t 53), (.t 54)], none, []⟩] [] false)))
    (.region [
  ⟨some 56, .bin .int .add (.t 48) (.c (.int .i64 1)), none, []⟩,
  ⟨some 48, .mov (.t 56), none, []⟩] [] false))))))
  (.seq (.region [
  ⟨some 57, .mov (.t 8), none, []⟩,
  ⟨some 6, .mov (.t 57), none, []⟩,
  ⟨some 7, .mov (.c (.nilIface)), none, []⟩] [] false)
  (.ret))))))))
def tf209 : TFunc := { np := 3, nt := 58, res := [.tmp 6, .tmp 7], own := false, body := tc209 }
noncomputable def S209_L1 (y3 : (List Int)) (x4 : Int) : Option (LR Int ((List Cell) × Err)) :=
  br (decide (x4 < ((List.length y3 : Nat) : Int)))
  (bno (lookI y3 x4) fun y5 =>
  br (decide (¬ y5 = x4))
  (finO (some (([] : List Cell), Err.no (3 : Int))))
  (nxO (some (wi (x4 + (1 : Int))))))
  (dnO (some x4))
noncomputable def S209_L2 (F54 : (List Dim) → (List Cell) → Int → (Option (List Cell))) (a0 : (List Dim)) (a2 : (List Int)) (x7 : (Int × (List Cell))) : Option (LR (Int × (List Cell)) ((List Cell) × Err)) :=
  br (decide (x7.1 < ((List.length a2 : Nat) : Int)))
  (bno (lookI a2 x7.1) fun y8 =>
  bno (F54 a0 x7.2 y8) fun y9 =>
  ck (decide (List.length y9 = List.length x7.2)) <|
  nxO (some (wi (x7.1 + (1 : Int)), y9)))
  (dnO (some (x7.1, x7.2)))
noncomputable def S209 (F21 : (List Dim) → (List Entry) → (Option ((List Cell) × Err))) (F210_214 : (List Int) → (Option (List Int))) (F211 : (List Int) → (Option (List Int))) (F54 : (List Dim) → (List Cell) → Int → (Option (List Cell))) (a0 : (List Dim)) (a1 : (List Entry)) (a2 : (List Int)) : Option ((List Cell) × Err) :=
  bno (F21 a0 a1) fun y1 =>
  br (!(Err.isNil y1.2))
  (some (([] : List Cell), y1.2))
  (bno (F211 a2) fun y2 =>
  bno (F210_214 y2) fun y3 =>
  lp (S209_L1 y3) (0 : Int) fun x6 =>
  br (decide (¬ ((List.length y3 : Nat) : Int) = ((List.length a0 : Nat) : Int)))
  (some (([] : List Cell), Err.no (3 : Int)))
  (lp (S209_L2 F54 a0 a2) ((0 : Int), y1.1) fun x10 =>
  some (x10.2, Err.nil)))
theorem s209 (F21 : (List Dim) → (List Entry) → (Option ((List Cell) × Err))) (F210_214 : (List Int) → (Option (List Int))) (F211 : (List Int) → (Option (List Int))) (F54 : (List Dim) → (List Cell) → Int → (Option (List Cell))) (a0 : (List Dim)) (a1 : (List Entry)) (a2 : (List Int)) : tf209.run [⟨21, [(.st .outl), (.sl .entry)], (.tp [(.own .cell), .err]), fun x => F21 x.1 x.2, false, []⟩,
  ⟨210, [(.fnc 214 [(.bx (.sl .int))])], (.sl .int), fun x => F210_214 x, false, []⟩,
  ⟨211, [(.sl .int)], (.fnc 214 [(.bx (.sl .int))]), fun x => F211 x, false, []⟩,
  ⟨54, [(.st .outl), (.own .cell), .int], (.own .cell), fun x => F54 x.1 x.2.1 x.2.2, false, [1]⟩] [(.st .outl), (.sl .entry), (.sl .int)] (.tp [(.sl .cell), .err]) (a0, a1, a2) = S209 F21 F210_214 F211 F54 a0 a1 a2 := by kernel_rfl
noncomputable def P209 (a0 : (List Dim)) (a1 : (List Entry)) (a2 : (List Int)) : Option ((List Cell) × Err) := S209 P21 P210_214 P211 P54 a0 a1 a2
noncomputable def k209 : CSpec := ⟨209, [(.st .outl), (.sl .entry), (.sl .int)], (.tp [(.sl .cell), .err]), fun x => P209 x.1 x.2.1 x.2.2, false, []⟩
theorem r209 {S : Seat} (h : Ok1 S 209 tf209) (h21 : Rt S k21) (h210_214 : Rt S k210_214) (h211 : Rt S k211) (h54 : Rt S k54) : Rt S k209 := fun x y hy =>
  Ok1.sound h (C := [k21, k210_214, k211, k54]) (CSound.cons h21 (CSound.cons h210_214 (CSound.cons h211 (CSound.cons h54 CSound.nil)))) rfl rfl rfl ((s209 P21 P210_214 P211 P54 x.1 x.2.1 x.2.2).trans hy) rfl

/- tallyhall/tallyref1.Written -/
/- tallyhall/tallyref1.Each -/
/- tallyhall/tallyref1.With -/
noncomputable def S250 (a0 : (List Int)) (a1 : Int) (a2 : Int) : Option (List Int) :=
  ck (decide (List.length a0 ≤ roomA)) <|
  ck (decide (0 ≤ a1 ∧ a1 < ((List.length a0 : Nat) : Int))) <|
  bno ((a0)[(Int.toNat a1)]?) fun y1 =>
  some (List.set a0 (Int.toNat a1) a2)
noncomputable def P250 (a0 : (List Int)) (a1 : Int) (a2 : Int) : Option (List Int) := S250 a0 a1 a2
/- tallyhall/tallyref1.Fold -/
noncomputable def S239_L1 (F140 : (List Dim) → (List Int) → (Option Int)) (F146 : Cell → Cell → Int → (Option Cell)) (F250 : (List Int) → Int → Int → (Option (List Int))) (a0 : (List Dim)) (a2 : Int) (y1 : Dim) (y3 : (List Int)) (x4 : (Int × (List Cell))) (y6 : (List Int)) (x8 : (Int × (Int × Int))) : Option (LR (Int × (Int × Int)) (Sum (List Cell) (LR (Int × (List Cell)) (LR (Int × (List Cell)) (List Cell))))) :=
  br (decide (x8.1 < ((List.length y3 : Nat) : Int)))
  (bno (lookI y3 x8.1) fun y9 =>
  bno (lookI (Dim.members y1) y9) fun y10 =>
  jn (σ := (Int × Int)) (α := (LR (Int × (Int × Int)) (Sum (List Cell) (LR (Int × (List Cell)) (LR (Int × (List Cell)) (List Cell)))))) (br (decide (¬ (Member.sign y10) = (0 : Int)))
  (bno (lookI y3 x8.1) fun y11 =>
  bno (F250 y6 a2 y11) fun y12 =>
  bno (F140 a0 y12) fun y13 =>
  ck (decide (0 ≤ y13 ∧ y13 < ((List.length x4.2 : Nat) : Int))) <|
  bno ((x4.2)[(Int.toNat y13)]?) fun y14 =>
  bno (F146 (Cell.mk x8.2.1 x8.2.2) y14 (Member.sign y10)) fun y15 =>
  inlO (some (Cell.k y15, Cell.n y15)))
  (inlO (some (x8.2.1, x8.2.2)))) fun x16 =>
  nxO (some (wi (x8.1 + (1 : Int)), (x16.1, x16.2))))
  (dnO (some (x8.1, (x8.2.1, x8.2.2))))
noncomputable def S239_L2 (F140 : (List Dim) → (List Int) → (Option Int)) (F142 : (List Dim) → Int → (Option (List Int))) (F146 : Cell → Cell → Int → (Option Cell)) (F250 : (List Int) → Int → Int → (Option (List Int))) (a0 : (List Dim)) (a2 : Int) (y1 : Dim) (x2 : (Int × (List Cell))) (y3 : (List Int)) (x4 : (Int × (List Cell))) : Option (LR (Int × (List Cell)) (LR (Int × (List Cell)) (List Cell))) :=
  jn (σ := Bool) (α := (LR (Int × (List Cell)) (LR (Int × (List Cell)) (List Cell)))) (br (decide (x4.1 < ((List.length x4.2 : Nat) : Int)))
  (inlO (some (decide ((0 : Int) < ((List.length y3 : Nat) : Int)))))
  (inlO (some false))) fun x5 =>
  br x5
  (jn (σ := (List Cell)) (α := (LR (Int × (List Cell)) (LR (Int × (List Cell)) (List Cell)))) (bno (F142 a0 x4.1) fun y6 =>
  bno (lookI y6 a2) fun y7 =>
  br (decide (¬ y7 = x2.1))
  (inlO (some x4.2))
  (lp (S239_L1 F140 F146 F250 a0 a2 y1 y3 x4 y6) ((0 : Int), ((0 : Int), (0 : Int))) fun x17 =>
  ck (decide (0 ≤ x4.1 ∧ x4.1 < ((List.length x4.2 : Nat) : Int))) <|
  bno ((x4.2)[(Int.toNat x4.1)]?) fun y18 =>
  inlO (some (List.set x4.2 (Int.toNat x4.1) (Cell.mk x17.2.1 x17.2.2))))) fun x19 =>
  nxO (some (wi (x4.1 + (1 : Int)), x19)))
  (dnO (some (x4.1, x4.2)))
noncomputable def S239_L3 (F100 : Dim → Int → (Option (List Int))) (F140 : (List Dim) → (List Int) → (Option Int)) (F142 : (List Dim) → Int → (Option (List Int))) (F146 : Cell → Cell → Int → (Option Cell)) (F250 : (List Int) → Int → Int → (Option (List Int))) (a0 : (List Dim)) (a2 : Int) (y1 : Dim) (x2 : (Int × (List Cell))) : Option (LR (Int × (List Cell)) (List Cell)) :=
  br (decide ((0 : Int) ≤ x2.1))
  (bno (F100 y1 x2.1) fun y3 =>
  lp (S239_L2 F140 F142 F146 F250 a0 a2 y1 x2 y3) ((0 : Int), x2.2) fun x20 =>
  nxO (some (wi (x2.1 - (1 : Int)), x20.2)))
  (dnO (some (x2.1, x2.2)))
noncomputable def S239 (F100 : Dim → Int → (Option (List Int))) (F140 : (List Dim) → (List Int) → (Option Int)) (F142 : (List Dim) → Int → (Option (List Int))) (F146 : Cell → Cell → Int → (Option Cell)) (F250 : (List Int) → Int → Int → (Option (List Int))) (a0 : (List Dim)) (a1 : (List Cell)) (a2 : Int) : Option (List Cell) :=
  ck (decide (List.length a1 ≤ roomA)) <|
  bno (lookI a0 a2) fun y1 =>
  lp (S239_L3 F100 F140 F142 F146 F250 a0 a2 y1) (wi (((List.length (Dim.members y1) : Nat) : Int) - (1 : Int)), a1) fun x21 =>
  some x21.2
noncomputable def P239 (a0 : (List Dim)) (a1 : (List Cell)) (a2 : Int) : Option (List Cell) := S239 P100 P140 P142 P146 P250 a0 a1 a2
end Ab
