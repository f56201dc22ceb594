/-
  Functions of the program as typed code, what they come to, and their contracts: written by program (mk.py).
-/
import Derived.Test.YtcabflannjeigaaB2
import Derived.KernelRfl
import Derived.Test.YtcabflannjeigaaMO
import Derived.Test.YtcabflannjeigaaC2
namespace Ab
open Go
set_option linter.unusedVariables false
set_option maxRecDepth 100000

/- cmp.isNaN[int] -/
def tc84 : TCode :=
  .seq (.region [
  ⟨some 2, .mov (.c (.bool false)), none, []⟩] [] false)
  (.seq (.region [
  ⟨some 3, .mov (.t 0), none, []⟩,
  ⟨some 4, .mov (.t 0), none, []⟩,
  ⟨some 5, .bin .int .neq (.t 3) (.t 4), none, []⟩,
  ⟨some 2, .mov (.t 5), none, []⟩] [] false)
  (.ret))
def tf84 : TFunc := { np := 1, nt := 6, res := [.tmp 2], own := false, body := tc84 }
noncomputable def S84 (a0 : Int) : Option Bool :=
  some (decide (¬ a0 = a0))
theorem s84 (a0 : Int) : tf84.run [] [.int] .bool a0 = S84 a0 := by kernel_rfl
noncomputable def P84 (a0 : Int) : Option Bool := S84 a0
noncomputable def k84 : CSpec := ⟨84, [.int], .bool, fun x => P84 x, false, []⟩
theorem r84 {S : Seat} (h : Ok1 S 84 tf84) : Rt S k84 := fun x y hy =>
  Ok1.sound h (C := []) CSound.nil rfl rfl rfl ((s84 x).trans hy) rfl

/- cmp.Compare[int] -/
def tc81 : TCode :=
  .seq (.region [
  ⟨some 4, .mov (.c (.int .i64 0)), none, []⟩] [] false)
  (.seq (.region [
  ⟨some 7, .mov (.t 0), none, []⟩,
  ⟨some 8, .call false [] 84 [(.t 7)], none, []⟩,
  ⟨some 5, .mov (.t 8), none, []⟩] [] false)
  (.seq (.region [
  ⟨some 9, .mov (.t 1), none, []⟩,
  ⟨some 10, .call false [] 84 [(.t 9)], none, []⟩,
  ⟨some 6, .mov (.t 10), none, []⟩] [] false)
  (.seq (.seq (.region [
  ⟨some 11, .mov (.t 5), none, []⟩] [] false)
  (.cond (.t 11)
    (.seq (.seq (.region [
  ⟨some 12, .mov (.t 6), none, []⟩] [] false)
    (.cond (.t 12)
      (.seq (.region [
  ⟨some 4, .mov (.c (.int .i64 0)), none, []⟩] [] false)
      (.ret))
      (.skip)))
    (.seq (.region [
  ⟨some 4, .mov (.c (.int .i64 (-1))), none, []⟩] [] false)
    (.ret)))
    (.skip)))
  (.seq (.seq (.region [
  ⟨some 13, .mov (.t 6), none, []⟩] [] false)
  (.cond (.t 13)
    (.seq (.region [
  ⟨some 4, .mov (.c (.int .i64 1)), none, []⟩] [] false)
    (.ret))
    (.skip)))
  (.seq (.seq (.region [
  ⟨some 14, .mov (.t 0), none, []⟩,
  ⟨some 15, .mov (.t 1), none, []⟩,
  ⟨some 16, .bin .int .lss (.t 14) (.t 15), none, []⟩] [] false)
  (.cond (.t 16)
    (.seq (.region [
  ⟨some 4, .mov (.c (.int .i64 (-1))), none, []⟩] [] false)
    (.ret))
    (.skip)))
  (.seq (.seq (.region [
  ⟨some 17, .mov (.t 0), none, []⟩,
  ⟨some 18, .mov (.t 1), none, []⟩,
  ⟨some 19, .bin .int .gtr (.t 17) (.t 18), none, []⟩] [] false)
  (.cond (.t 19)
    (.seq (.region [
  ⟨some 4, .mov (.c (.int .i64 1)), none, []⟩] [] false)
    (.ret))
    (.skip)))
  (.seq (.region [
  ⟨some 4, .mov (.c (.int .i64 0)), none, []⟩] [] false)
  (.ret))))))))
def tf81 : TFunc := { np := 2, nt := 20, res := [.tmp 4], own := false, body := tc81 }
noncomputable def S81 (F84 : Int → (Option Bool)) (a0 : Int) (a1 : Int) : Option Int :=
  bno (F84 a0) fun y1 =>
  bno (F84 a1) fun y2 =>
  br y1
  (br y2
  (some (0 : Int))
  (some (-1 : Int)))
  (br y2
  (some (1 : Int))
  (br (decide (a0 < a1))
  (some (-1 : Int))
  (br (decide (a1 < a0))
  (some (1 : Int))
  (some (0 : Int)))))
theorem s81 (F84 : Int → (Option Bool)) (a0 : Int) (a1 : Int) : tf81.run [⟨84, [.int], .bool, fun x => F84 x, false, []⟩] [.int, .int] .int (a0, a1) = S81 F84 a0 a1 := by kernel_rfl
noncomputable def P81 (a0 : Int) (a1 : Int) : Option Int := S81 P84 a0 a1
noncomputable def k81 : CSpec := ⟨81, [.int, .int], .int, fun x => P81 x.1 x.2, false, []⟩
theorem r81 {S : Seat} (h : Ok1 S 81 tf81) (h84 : Rt S k84) : Rt S k81 := fun x y hy =>
  Ok1.sound h (C := [k84]) (CSound.cons h84 CSound.nil) rfl rfl rfl ((s81 P84 x.1 x.2).trans hy) rfl

/- slices.Compare[tallyhall/api.Place,int] -/
def tc74 : TCode :=
  .seq (.region [
  ⟨some 4, .mov (.c (.int .i64 0)), none, []⟩] [] false)
  (.seq (.seq (.region [
  ⟨some 9, .mov (.t 0), none, []⟩,
  ⟨some 10, .len false (.t 9), none, []⟩,
  ⟨some 11, .mov (.c (.int .i64 0)), none, []⟩] [] false)
  (.loop ⟨[.slot 11 .int], [5, 6, 7, 8, 12, 13, 14, 15, 16, 17, 18, 19, 20, 21, 22, 23, 24, 25, 26, 27, 28, 30], [], []⟩ 0 (.seq (.region [
  ⟨some 12, .bin .int .lss (.t 11) (.t 10), none, []⟩] [] false)
    (.seq (.cond (.t 12)
      (.skip)
      (.exit 0))
    (.seq (.block 1 (.seq (.region [
  ⟨some 13, .mov (.t 11), none, []⟩,
  ⟨some 14, .ia 1 (.t 9) (.t 11), none, []⟩,
  ⟨some 15, .load none (.t 14), none, []⟩,
  ⟨some 5, .mov (.t 13), none, []⟩,
  ⟨some 6, .mov (.t 15), none, []⟩] [] false)
      (.seq (.seq (.region [
  ⟨some 16, .mov (.t 5), none, []⟩,
  ⟨some 17, .mov (.t 1), none, []⟩,
  ⟨some 18, .len false (.t 17), none, []⟩,
  ⟨some 19, .bin .int .geq (.t 16) (.t 18), none, []⟩] [] false)
      (.cond (.t 19)
        (.seq (.region [
  ⟨some 4, .mov (.c (.int .i64 1)), none, []⟩] [] false)
        (.ret))
        (.skip)))
      (.seq (.region [
  ⟨some 20, .mov (.t 1), none, []⟩,
  ⟨some 21, .mov (.t 5), none, []⟩,
  ⟨some 22, .ia 1 (.t 20) (.t 21), none, []⟩,
  ⟨some 23, .load none (.t 22), none, []⟩,
  ⟨some 7, .mov (.t 23), none, []⟩] [] false)
      (.seq (.region [
  ⟨some 24, .mov (.t 6), none, []⟩,
  ⟨some 25, .mov (.t 7), none, []⟩,
  ⟨some 26, .call false [] 81 [(.t 24), (.t 25)], none, []⟩,
  ⟨some 8, .mov (.t 26), none, []⟩] [] false)
      (.seq (.region [
  ⟨some 27, .mov (.t 8), none, []⟩,
  ⟨some 28, .bin .int .neq (.t 27) (.c (.int .i64 0)), none, []⟩] [] false)
      (.cond (.t 28)
        (.seq (.region [
  ⟨some 29, .mov (.t 8), none, []⟩,
  ⟨some 4, .mov (.t 29), none, []⟩] [] false)
        (.ret))
        (.skip))))))))
    (.region [
  ⟨some 30, .bin .int .add (.t 11) (.c (.int .i64 1)), none, []⟩,
  ⟨some 11, .mov (.t 30), none, []⟩] [] false))))))
  (.seq (.seq (.region [
  ⟨some 31, .mov (.t 0), none, []⟩,
  ⟨some 32, .len false (.t 31), none, []⟩,
  ⟨some 33, .mov (.t 1), none, []⟩,
  ⟨some 34, .len false (.t 33), none, []⟩,
  ⟨some 35, .bin .int .lss (.t 32) (.t 34), none, []⟩] [] false)
  (.cond (.t 35)
    (.seq (.region [
  ⟨some 4, .mov (.c (.int .i64 (-1))), none, []⟩] [] false)
    (.ret))
    (.skip)))
  (.seq (.region [
  ⟨some 4, .mov (.c (.int .i64 0)), none, []⟩] [] false)
  (.ret))))
def tf74 : TFunc := { np := 2, nt := 36, res := [.tmp 4], own := false, body := tc74 }
noncomputable def S74_L1 (F81 : Int → Int → (Option Int)) (a0 : (List Int)) (a1 : (List Int)) (x1 : Int) : Option (LR Int Int) :=
  br (decide (x1 < ((List.length a0 : Nat) : Int)))
  (bno (lookI a0 x1) fun y2 =>
  br (decide (((List.length a1 : Nat) : Int) ≤ x1))
  (finO (some (1 : Int)))
  (bno (lookI a1 x1) fun y3 =>
  bno (F81 y2 y3) fun y4 =>
  br (decide (¬ y4 = (0 : Int)))
  (finO (some y4))
  (nxO (some (wi (x1 + (1 : Int)))))))
  (dnO (some x1))
noncomputable def S74 (F81 : Int → Int → (Option Int)) (a0 : (List Int)) (a1 : (List Int)) : Option Int :=
  lp (S74_L1 F81 a0 a1) (0 : Int) fun x5 =>
  br (decide (((List.length a0 : Nat) : Int) < ((List.length a1 : Nat) : Int)))
  (some (-1 : Int))
  (some (0 : Int))
theorem s74 (F81 : Int → Int → (Option Int)) (a0 : (List Int)) (a1 : (List Int)) : tf74.run [⟨81, [.int, .int], .int, fun x => F81 x.1 x.2, false, []⟩] [(.sl .int), (.sl .int)] .int (a0, a1) = S74 F81 a0 a1 := by kernel_rfl
noncomputable def P74 (a0 : (List Int)) (a1 : (List Int)) : Option Int := S74 P81 a0 a1
noncomputable def k74 : CSpec := ⟨74, [(.sl .int), (.sl .int)], .int, fun x => P74 x.1 x.2, false, []⟩
theorem r74 {S : Seat} (h : Ok1 S 74 tf74) (h81 : Rt S k81) : Rt S k74 := fun x y hy =>
  Ok1.sound h (C := [k81]) (CSound.cons h81 CSound.nil) rfl rfl rfl ((s74 P81 x.1 x.2).trans hy) rfl

/- tallyhall/input.order -/
def tc61 : TCode :=
  .seq (.region [
  ⟨some 2, .box (.t 0), none, []⟩,
  ⟨some 3, .box (.t 1), none, []⟩,
  ⟨some 4, .mov (.c (.int .i64 0)), none, []⟩] [] false)
  (.seq (.region [
  ⟨some 5, .fa 0 (.t 2), none, []⟩,
  ⟨some 6, .load none (.t 5), none, []⟩,
  ⟨some 7, .fa 0 (.t 3), none, []⟩,
  ⟨some 8, .load none (.t 7), none, []⟩,
  ⟨some 9, .call false [] 74 [(.t 6), (.t 8)], none, []⟩,
  ⟨some 4, .mov (.t 9), none, []⟩] [] false)
  (.ret))
def tf61 : TFunc := { np := 2, nt := 10, res := [.tmp 4], own := false, body := tc61 }
noncomputable def S61 (F74 : (List Int) → (List Int) → (Option Int)) (a0 : Entry) (a1 : Entry) : Option Int :=
  bno (F74 (Entry.at_ a0) (Entry.at_ a1)) fun y1 =>
  some y1
theorem s61 (F74 : (List Int) → (List Int) → (Option Int)) (a0 : Entry) (a1 : Entry) : tf61.run [⟨74, [(.sl .int), (.sl .int)], .int, fun x => F74 x.1 x.2, false, []⟩] [(.st .entry), (.st .entry)] .int (a0, a1) = S61 F74 a0 a1 := by kernel_rfl
noncomputable def P61 (a0 : Entry) (a1 : Entry) : Option Int := S61 P74 a0 a1
noncomputable def k61 : CSpec := ⟨61, [(.st .entry), (.st .entry)], .int, fun x => P61 x.1 x.2, false, []⟩
theorem r61 {S : Seat} (h : Ok1 S 61 tf61) (h74 : Rt S k74) : Rt S k61 := fun x y hy =>
  Ok1.sound h (C := [k74]) (CSound.cons h74 CSound.nil) rfl rfl rfl ((s61 P74 x.1 x.2).trans hy) rfl

/- slices.BinarySearchFunc[[]tallyhall/api.Entry,tallyhall/api.Entry,tallyhall/api.Entry] -/
/- tallyhall/input.value -/
def tc60 : TCode :=
  .seq (.region [
  ⟨some 2, .mov (.c (.bool false)), none, []⟩] [] false)
  (.seq (.regionJ ⟨[.slot 2 .bool], [3, 4, 5, 6, 7, 8], [], []⟩ [
  ⟨some 3, .mov (.t 0), none, []⟩,
  ⟨some 4, .bin .int .geq (.t 3) (.c (.int .i64 (-1000000))), none, []⟩,
  ⟨some 5, .mov (.t 4), none, []⟩,
  ⟨some 6, .mov (.t 0), (some (5, true)), []⟩,
  ⟨some 7, .bin .int .leq (.t 6) (.c (.int .i64 1000000)), (some (5, true)), []⟩,
  ⟨some 8, .pick (.t 5) (.t 7) (.c (.bool false)), none, []⟩,
  ⟨some 2, .mov (.t 8), none, []⟩] [] false)
  (.ret))
def tf60 : TFunc := { np := 1, nt := 9, res := [.tmp 2], own := false, body := tc60 }
noncomputable def S60 (a0 : Int) : Option Bool :=
  jn (σ := Bool) (α := Bool) (br (decide ((-1000000 : Int) ≤ a0))
  (inlO (some (decide (a0 ≤ (1000000 : Int)))))
  (inlO (some false))) fun x1 =>
  some x1
theorem s60 (a0 : Int) : tf60.run [] [.int] .bool a0 = S60 a0 := by kernel_rfl
noncomputable def P60 (a0 : Int) : Option Bool := S60 a0
noncomputable def k60 : CSpec := ⟨60, [.int], .bool, fun x => P60 x, false, []⟩
theorem r60 {S : Seat} (h : Ok1 S 60 tf60) : Rt S k60 := fun x y hy =>
  Ok1.sound h (C := []) CSound.nil rfl rfl rfl ((s60 x).trans hy) rfl

/- tallyhall/input.Check -/
def tc27 : TCode :=
  .seq (.region [
  ⟨some 2, .box (.t 0), none, []⟩,
  ⟨some 4, .mov (.c (.nilIface)), none, []⟩] [] false)
  (.seq (.seq (.region [
  ⟨some 9, .load (some 1) (.t 2), none, []⟩,
  ⟨some 10, .call false [] 51 [(.t 9)], none, []⟩,
  ⟨some 5, .mov (.t 10), none, []⟩] [] false)
  (.seq (.region [
  ⟨some 11, .mov (.t 5), none, []⟩,
  ⟨some 12, .eqn false true (.t 11), none, []⟩] [] false)
  (.cond (.t 12)
    (.seq (.region [
  ⟨some 13, .mov (.t 5), none, []⟩,
  ⟨some 4, .mov (.t 13), none, []⟩] [] false)
    (.ret))
    (.skip))))
  (.seq (.seq (.region [
  ⟨some 14, .mov (.t 1), none, []⟩,
  ⟨some 15, .len false (.t 14), none, []⟩,
  ⟨some 16, .mov (.c (.int .i64 0)), none, []⟩] [] false)
  (.loop ⟨[.slot 16 .int], [6, 7, 8, 17, 18, 19, 20, 21, 22, 23, 24, 25, 26, 28, 29, 30, 31, 32, 33, 35, 36, 37, 38, 39, 41, 42, 43, 44, 45, 46, 47, 48, 49, 50, 51, 52, 53, 55], [7], []⟩ 0 (.seq (.region [
  ⟨some 17, .bin .int .lss (.t 16) (.t 15), none, []⟩] [] false)
    (.seq (.cond (.t 17)
      (.skip)
      (.exit 0))
    (.seq (.block 1 (.seq (.region [
  ⟨some 18, .mov (.t 16), none, []⟩,
  ⟨some 19, .ia 2 (.t 14) (.t 16), none, []⟩,
  ⟨some 20, .load (some 2) (.t 19), none, []⟩,
  ⟨some 7, .alloc [.slice none 0 0, .int .i64 0], none, []⟩,
  ⟨some 6, .mov (.t 18), none, []⟩,
  ⟨none, .store 2 (.t 7) (.t 20), none, []⟩] [] false)
      (.seq (.seq (.region [
  ⟨some 21, .load (some 1) (.t 2), none, []⟩,
  ⟨some 22, .fa 0 (.t 7), none, []⟩,
  ⟨some 23, .load none (.t 22), none, []⟩,
  ⟨some 24, .call false [] 58 [(.t 21), (.t 23)], none, []⟩,
  ⟨some 8, .mov (.t 24), none, []⟩] [] false)
      (.seq (.region [
  ⟨some 25, .mov (.t 8), none, []⟩,
  ⟨some 26, .eqn false true (.t 25), none, []⟩] [] false)
      (.cond (.t 26)
        (.seq (.region [
  ⟨some 27, .mov (.t 8), none, []⟩,
  ⟨some 4, .mov (.t 27), none, []⟩] [] false)
        (.ret))
        (.skip))))
      (.block 2 (.seq (.region [
  ⟨some 29, .load (some 1) (.t 2), none, []⟩,
  ⟨some 30, .fa 0 (.t 7), none, []⟩,
  ⟨some 31, .load none (.t 30), none, []⟩,
  ⟨some 32, .call false [] 59 [(.t 29), (.t 31)], none, []⟩,
  ⟨some 33, .un .not (.t 32), none, []⟩,
  ⟨some 28, .mov (.t 33), none, []⟩] [] false)
        (.cond (.t 28)
          (.seq (.region [
  ⟨some 34, .ifc 1 (.c (.int .i64 6)), none, []⟩,
  ⟨some 4, .mov (.t 34), none, []⟩] [] false)
          (.ret))
          (.seq (.region [
  ⟨some 36, .fa 1 (.t 7), none, []⟩,
  ⟨some 37, .load none (.t 36), none, []⟩,
  ⟨some 38, .call false [] 60 [(.t 37)], none, []⟩,
  ⟨some 39, .un .not (.t 38), none, []⟩,
  ⟨some 35, .mov (.t 39), none, []⟩] [] false)
          (.cond (.t 35)
            (.seq (.region [
  ⟨some 40, .ifc 1 (.c (.int .i64 1)), none, []⟩,
  ⟨some 4, .mov (.t 40), none, []⟩] [] false)
            (.ret))
            (.seq (.regionJ ⟨[.slot 41 .bool], [42, 43, 44, 45, 46, 47, 48, 49, 50, 51, 52, 53], [], []⟩ [
  ⟨some 42, .mov (.t 6), none, []⟩,
  ⟨some 43, .bin .int .gtr (.t 42) (.c (.int .i64 0)), none, [0]⟩,
  ⟨some 44, .mov (.t 43), none, [1]⟩,
  ⟨some 45, .mov (.t 1), (some (44, true)), [2]⟩,
  ⟨some 46, .mov (.t 6), (some (44, true)), [2]⟩,
  ⟨some 47, .bin .int .sub (.t 46) (.c (.int .i64 1)), (some (44, true)), [4, 2]⟩,
  ⟨some 48, .ia 2 (.t 45) (.t 47), (some (44, true)), [3, 5, 2]⟩,
  ⟨some 49, .load (some 2) (.t 48), (some (44, true)), [6, 2]⟩,
  ⟨some 50, .load (some 2) (.t 7), (some (44, true)), [2]⟩,
  ⟨some 51, .call false [] 61 [(.t 49), (.t 50)], (some (44, true)), [7, 8, 2, 2]⟩,
  ⟨some 52, .bin .int .geq (.t 51) (.c (.int .i64 0)), (some (44, true)), [9, 2]⟩,
  ⟨some 53, .pick (.t 44) (.t 52) (.c (.bool false)), none, [2, 10]⟩,
  ⟨some 41, .mov (.t 53), none, [11, 9]⟩] [] true)
            (.cond (.t 41)
              (.seq (.region [
  ⟨some 54, .ifc 1 (.c (.int .i64 7)), none, []⟩,
  ⟨some 4, .mov (.t 54), none, []⟩] [] false)
              (.ret))
              (.skip)))))))))))
    (.region [
  ⟨some 55, .bin .int .add (.t 16) (.c (.int .i64 1)), none, []⟩,
  ⟨some 16, .mov (.t 55), none, []⟩] [] false))))))
  (.seq (.region [
  ⟨some 4, .mov (.c (.nilIface)), none, []⟩] [] false)
  (.ret))))
def tf27 : TFunc := { np := 2, nt := 56, res := [.tmp 4], own := false, body := tc27 }
noncomputable def S27_L1 (F58 : (List Dim) → (List Int) → (Option Err)) (F59 : (List Dim) → (List Int) → (Option Bool)) (F60 : Int → (Option Bool)) (F61 : Entry → Entry → (Option Int)) (a0 : (List Dim)) (a1 : (List Entry)) (x2 : Int) : Option (LR Int Err) :=
  br (decide (x2 < ((List.length a1 : Nat) : Int)))
  (bno (lookI a1 x2) fun y3 =>
  bno (F58 a0 (Entry.at_ y3)) fun y4 =>
  br (!(Err.isNil y4))
  (finO (some y4))
  (bno (F59 a0 (Entry.at_ y3)) fun y5 =>
  br (!y5)
  (finO (some (Err.no (6 : Int))))
  (bno (F60 (Entry.n y3)) fun y6 =>
  br (!y6)
  (finO (some (Err.no (1 : Int))))
  (jn (σ := Bool) (α := (LR Int Err)) (br (decide ((0 : Int) < x2))
  (bno (lookI a1 (wi (x2 - (1 : Int)))) fun y7 =>
  bno (F61 y7 y3) fun y8 =>
  inlO (some (decide ((0 : Int) ≤ y8))))
  (inlO (some false))) fun x9 =>
  br x9
  (finO (some (Err.no (7 : Int))))
  (nxO (some (wi (x2 + (1 : Int)))))))))
  (dnO (some x2))
noncomputable def S27 (F51 : (List Dim) → (Option Err)) (F58 : (List Dim) → (List Int) → (Option Err)) (F59 : (List Dim) → (List Int) → (Option Bool)) (F60 : Int → (Option Bool)) (F61 : Entry → Entry → (Option Int)) (a0 : (List Dim)) (a1 : (List Entry)) : Option Err :=
  bno (F51 a0) fun y1 =>
  br (!(Err.isNil y1))
  (some y1)
  (lp (S27_L1 F58 F59 F60 F61 a0 a1) (0 : Int) fun x10 =>
  some Err.nil)
theorem s27 (F51 : (List Dim) → (Option Err)) (F58 : (List Dim) → (List Int) → (Option Err)) (F59 : (List Dim) → (List Int) → (Option Bool)) (F60 : Int → (Option Bool)) (F61 : Entry → Entry → (Option Int)) (a0 : (List Dim)) (a1 : (List Entry)) : tf27.run [⟨51, [(.st .outl)], .err, fun x => F51 x, false, []⟩,
  ⟨58, [(.st .outl), (.sl .int)], .err, fun x => F58 x.1 x.2, false, []⟩,
  ⟨59, [(.st .outl), (.sl .int)], .bool, fun x => F59 x.1 x.2, false, []⟩,
  ⟨60, [.int], .bool, fun x => F60 x, false, []⟩,
  ⟨61, [(.st .entry), (.st .entry)], .int, fun x => F61 x.1 x.2, false, []⟩] [(.st .outl), (.sl .entry)] .err (a0, a1) = S27 F51 F58 F59 F60 F61 a0 a1 := by kernel_rfl
noncomputable def P27 (a0 : (List Dim)) (a1 : (List Entry)) : Option Err := S27 P51 P58 P59 P60 P61 a0 a1
noncomputable def k27 : CSpec := ⟨27, [(.st .outl), (.sl .entry)], .err, fun x => P27 x.1 x.2, false, []⟩
theorem r27 {S : Seat} (h : Ok1 S 27 tf27) (h51 : Rt S k51) (h58 : Rt S k58) (h59 : Rt S k59) (h60 : Rt S k60) (h61 : Rt S k61) : Rt S k27 := fun x y hy =>
  Ok1.sound h (C := [k51, k58, k59, k60, k61]) (CSound.cons h51 (CSound.cons h58 (CSound.cons h59 (CSound.cons h60 (CSound.cons h61 CSound.nil))))) rfl rfl rfl ((s27 P51 P58 P59 P60 P61 x.1 x.2).trans hy) rfl

/- tallyhall/input.ready -/
/- tallyhall/input.Find -/
/- tallyhall/input.At -/
/- tallyhall/input.Get -/
end Ab
