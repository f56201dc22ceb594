/-
  Functions of the program as typed code, what they come to, and their contracts: written by program (mk.py).
-/
import Derived.Test.YthjpciiacibnhaaDoorB2
import Derived.KernelRfl
import Derived.Test.YthjpciiacibnhaaDoorMR
namespace Ab
open Go
set_option linter.unusedVariables false
set_option maxRecDepth 100000

/- tallyhall/tallyref1.Place -/
def tc123 : TCode :=
  .seq (.region [
  ⟨some 2, .box (.t 0), none, []⟩,
  ⟨some 4, .mov (.c (.int .i64 0)), none, []⟩] [] false)
  (.seq (.seq (.region [
  ⟨some 6, .mov (.t 1), none, []⟩,
  ⟨some 7, .len false (.t 6), none, []⟩,
  ⟨some 8, .fa 0 (.t 2), none, []⟩,
  ⟨some 9, .load none (.t 8), none, []⟩,
  ⟨some 10, .len false (.t 9), none, []⟩,
  ⟨some 11, .bin .int .neq (.t 7) (.t 10), none, []⟩] [] false)
  (.cond (.t 11)
    (.seq (.region [
  ⟨some 4, .mov (.c (.int .i64 3)), none, []⟩] [] false)
    (.ret))
    (.skip)))
  (.seq (.seq (.region [
  ⟨some 5, .mov (.c (.int .i64 0)), none, []⟩] [] false)
  (.loop ⟨[.slot 5 .int], [12, 13, 14, 15, 16, 17, 18, 19, 20, 21, 22, 23, 24, 25, 26, 27, 28, 29, 30, 31, 32, 33, 34, 35, 36], [], []⟩ 0 (.seq (.seq (.region [
  ⟨some 12, .mov (.t 5), none, []⟩,
  ⟨some 13, .mov (.t 1), none, []⟩,
  ⟨some 14, .len false (.t 13), none, []⟩,
  ⟨some 15, .bin .int .lss (.t 12) (.t 14), none, []⟩] [] false)
    (.cond (.t 15)
      (.skip)
      (.exit 0)))
    (.seq (.block 1 (.seq (.regionJ ⟨[.slot 36 .bool], [18, 19, 20, 21, 22, 23, 24, 25, 26, 27, 28, 29, 30, 31, 32, 33, 34, 35], [], []⟩ [
  ⟨some 18, .mov (.t 1), none, []⟩,
  ⟨some 19, .mov (.t 5), none, []⟩,
  ⟨some 20, .ia 1 (.t 18) (.t 19), none, [0, 1]⟩,
  ⟨some 21, .load none (.t 20), none, [2]⟩,
  ⟨some 22, .bin .int .lss (.t 21) (.c (.int .i64 0)), none, [3]⟩,
  ⟨some 23, .mov (.t 22), none, [4]⟩,
  ⟨some 24, .mov (.t 1), (some (23, false)), [5]⟩,
  ⟨some 25, .mov (.t 5), (some (23, false)), [5]⟩,
  ⟨some 26, .ia 1 (.t 24) (.t 25), (some (23, false)), [6, 7, 5]⟩,
  ⟨some 27, .load none (.t 26), (some (23, false)), [8, 5]⟩,
  ⟨some 28, .fa 0 (.t 2), (some (23, false)), [5]⟩,
  ⟨some 29, .load none (.t 28), (some (23, false)), [10, 5]⟩,
  ⟨some 30, .mov (.t 5), (some (23, false)), [5]⟩,
  ⟨some 31, .ia 3 (.t 29) (.t 30), (some (23, false)), [11, 12, 5]⟩,
  ⟨some 32, .fa 2 (.t 31), (some (23, false)), [13, 5]⟩,
  ⟨some 33, .load none (.t 32), (some (23, false)), [14, 5]⟩,
  ⟨some 34, .len false (.t 33), (some (23, false)), [15, 5]⟩,
  ⟨some 35, .bin .int .geq (.t 27) (.t 34), (some (23, false)), [9, 16, 5]⟩,
  ⟨some 36, .pick (.t 23) (.c (.bool true)) (.t 35), none, [5, 17]⟩] [] true)
      (.cond (.t 36)
        (.seq (.region [
  ⟨some 4, .mov (.c (.int .i64 1)), none, []⟩] [] false)
        (.ret))
        (.skip))))
    (.region [
  ⟨some 16, .mov (.t 5), none, []⟩,
  ⟨some 17, .bin .int .add (.t 16) (.c (.int .i64 1)), none, []⟩,
  ⟨some 5, .mov (.t 17), none, []⟩] [] false)))))
  (.seq (.region [
  ⟨some 4, .mov (.c (.int .i64 0)), none, []⟩] [] false)
  (.ret))))
def tf123 : TFunc := { np := 2, nt := 37, res := [.tmp 4], own := false, body := tc123 }
noncomputable def S123_L1 (a0 : (List Dim)) (a1 : (List Int)) (x1 : Int) : Option (LR Int Int) :=
  br (decide (x1 < ((List.length a1 : Nat) : Int)))
  (jn (σ := Bool) (α := (LR Int Int)) (bno (lookI a1 x1) fun y2 =>
  br (decide (y2 < (0 : Int)))
  (inlO (some true))
  (bno (lookI a1 x1) fun y3 =>
  bno (lookI a0 x1) fun y4 =>
  inlO (some (decide (((List.length (Dim.members y4) : Nat) : Int) ≤ y3))))) fun x5 =>
  br x5
  (finO (some (1 : Int)))
  (nxO (some (wi (x1 + (1 : Int))))))
  (dnO (some x1))
noncomputable def S123 (a0 : (List Dim)) (a1 : (List Int)) : Option Int :=
  br (decide (¬ ((List.length a1 : Nat) : Int) = ((List.length a0 : Nat) : Int)))
  (some (3 : Int))
  (lp (S123_L1 a0 a1) (0 : Int) fun x6 =>
  some (0 : Int))
theorem s123 (a0 : (List Dim)) (a1 : (List Int)) : tf123.run [] [(.st .outl), (.sl .int)] .int (a0, a1) = S123 a0 a1 := by kernel_rfl
noncomputable def P123 (a0 : (List Dim)) (a1 : (List Int)) : Option Int := S123 a0 a1
noncomputable def k123 : CSpec := ⟨123, [(.st .outl), (.sl .int)], .int, fun x => P123 x.1 x.2, false, []⟩
theorem r123 {S : Seat} (h : Ok1 S 123 tf123) : Rt S k123 := fun x y hy =>
  Ok1.sound h (C := []) CSound.nil rfl rfl rfl ((s123 x.1 x.2).trans hy) rfl

/- tallyhall/tallyref1.Right -/
def tc125 : TCode :=
  .seq (.region [
  ⟨some 1, .box (.t 0), none, []⟩,
  ⟨some 2, .mov (.c (.int .i64 0)), none, []⟩] [] false)
  (.seq (.region [
  ⟨some 7, .load (some 1) (.t 1), none, []⟩,
  ⟨some 8, .call false [] 94 [(.t 7)], none, []⟩,
  ⟨some 6, .mov (.t 8), none, []⟩,
  ⟨some 9, .ext (.t 6) 0, none, []⟩,
  ⟨some 10, .ext (.t 6) 1, none, []⟩,
  ⟨some 11, .ext (.t 6) 2, none, []⟩,
  ⟨some 3, .mov (.t 9), none, []⟩,
  ⟨some 4, .mov (.t 10), none, []⟩,
  ⟨some 5, .mov (.t 11), none, []⟩] [] false)
  (.seq (.region [
  ⟨some 12, .mov (.t 5), none, []⟩,
  ⟨some 2, .mov (.t 12), none, []⟩] [] false)
  (.ret)))
def tf125 : TFunc := { np := 1, nt := 13, res := [.tmp 2], own := false, body := tc125 }
noncomputable def S125 (F94 : (List Dim) → (Option (Int × Int × Int))) (a0 : (List Dim)) : Option Int :=
  bno (F94 a0) fun y1 =>
  some y1.2.2
theorem s125 (F94 : (List Dim) → (Option (Int × Int × Int))) (a0 : (List Dim)) : tf125.run [⟨94, [(.st .outl)], (.tp [.int, .int, .int]), fun x => F94 x, false, []⟩] [(.st .outl)] .int a0 = S125 F94 a0 := by kernel_rfl
noncomputable def P125 (a0 : (List Dim)) : Option Int := S125 P94 a0
noncomputable def k125 : CSpec := ⟨125, [(.st .outl)], .int, fun x => P125 x, false, []⟩
theorem r125 {S : Seat} (h : Ok1 S 125 tf125) (h94 : Rt S k94) : Rt S k125 := fun x y hy =>
  Ok1.sound h (C := [k94]) (CSound.cons h94 CSound.nil) rfl rfl rfl ((s125 P94 x).trans hy) rfl

/- tallyhall/tallyref1.LeafPlace -/
def tc130 : TCode :=
  .seq (.region [
  ⟨some 2, .box (.t 0), none, []⟩,
  ⟨some 4, .mov (.c (.bool false)), none, []⟩] [] false)
  (.seq (.seq (.region [
  ⟨some 5, .mov (.c (.int .i64 0)), none, []⟩] [] false)
  (.loop ⟨[.slot 5 .int], [6, 7, 8, 9, 10, 11, 12, 13, 14, 15, 16, 17, 18, 19, 20, 21, 22, 23, 24], [], []⟩ 0 (.seq (.seq (.region [
  ⟨some 7, .mov (.t 5), none, []⟩,
  ⟨some 8, .mov (.t 1), none, []⟩,
  ⟨some 9, .len false (.t 8), none, []⟩,
  ⟨some 10, .bin .int .lss (.t 7) (.t 9), none, []⟩] [] false)
    (.cond (.t 10)
      (.skip)
      (.exit 0)))
    (.seq (.block 1 (.seq (.region [
  ⟨some 13, .fa 0 (.t 2), none, []⟩,
  ⟨some 14, .load none (.t 13), none, [0]⟩,
  ⟨some 15, .mov (.t 5), none, []⟩,
  ⟨some 16, .ia 3 (.t 14) (.t 15), none, [1, 2]⟩,
  ⟨some 17, .load (some 3) (.t 16), none, [3]⟩,
  ⟨some 18, .mov (.t 1), none, []⟩,
  ⟨some 19, .mov (.t 5), none, []⟩,
  ⟨some 20, .ia 1 (.t 18) (.t 19), none, [5, 6]⟩,
  ⟨some 21, .load none (.t 20), none, [7]⟩,
  ⟨some 22, .call false [] 102 [(.t 17), (.t 21)], none, [4, 8]⟩,
  ⟨some 6, .mov (.t 22), none, [9, 9, 0, 1, 2, 3, 4, 5, 6, 7, 8, 9]⟩] [] true)
      (.seq (.region [
  ⟨some 23, .mov (.t 6), none, []⟩,
  ⟨some 24, .un .not (.t 23), none, []⟩] [] false)
      (.cond (.t 24)
        (.seq (.region [
  ⟨some 4, .mov (.c (.bool false)), none, []⟩] [] false)
        (.ret))
        (.skip)))))
    (.region [
  ⟨some 11, .mov (.t 5), none, []⟩,
  ⟨some 12, .bin .int .add (.t 11) (.c (.int .i64 1)), none, []⟩,
  ⟨some 5, .mov (.t 12), none, []⟩] [] false)))))
  (.seq (.region [
  ⟨some 4, .mov (.c (.bool true)), none, []⟩] [] false)
  (.ret)))
def tf130 : TFunc := { np := 2, nt := 25, res := [.tmp 4], own := false, body := tc130 }
noncomputable def S130_L1 (F102 : Dim → Int → (Option Bool)) (a0 : (List Dim)) (a1 : (List Int)) (x1 : Int) : Option (LR Int Bool) :=
  br (decide (x1 < ((List.length a1 : Nat) : Int)))
  (bno (lookI a0 x1) fun y2 =>
  bno (lookI a1 x1) fun y3 =>
  bno (F102 y2 y3) fun y4 =>
  br (!y4)
  (finO (some false))
  (nxO (some (wi (x1 + (1 : Int))))))
  (dnO (some x1))
noncomputable def S130 (F102 : Dim → Int → (Option Bool)) (a0 : (List Dim)) (a1 : (List Int)) : Option Bool :=
  lp (S130_L1 F102 a0 a1) (0 : Int) fun x5 =>
  some true
theorem s130 (F102 : Dim → Int → (Option Bool)) (a0 : (List Dim)) (a1 : (List Int)) : tf130.run [⟨102, [(.st .dim), .int], .bool, fun x => F102 x.1 x.2, false, []⟩] [(.st .outl), (.sl .int)] .bool (a0, a1) = S130 F102 a0 a1 := by kernel_rfl
noncomputable def P130 (a0 : (List Dim)) (a1 : (List Int)) : Option Bool := S130 P102 a0 a1
noncomputable def k130 : CSpec := ⟨130, [(.st .outl), (.sl .int)], .bool, fun x => P130 x.1 x.2, false, []⟩
theorem r130 {S : Seat} (h : Ok1 S 130 tf130) (h102 : Rt S k102) : Rt S k130 := fun x y hy =>
  Ok1.sound h (C := [k102]) (CSound.cons h102 CSound.nil) rfl rfl rfl ((s130 P102 x.1 x.2).trans hy) rfl

/- tallyhall/tallyref1.Less -/
def tc151 : TCode :=
  .seq (.region [
  ⟨some 4, .mov (.c (.bool false)), none, []⟩] [] false)
  (.seq (.seq (.region [
  ⟨some 5, .mov (.c (.int .i64 0)), none, []⟩] [] false)
  (.loop ⟨[.slot 5 .int], [6, 7, 8, 9, 10, 11, 12, 13, 14, 15, 16, 17, 18, 19, 20, 21, 22, 23, 24, 25, 26], [], []⟩ 0 (.seq (.seq (.regionJ ⟨[.slot 15 .bool], [6, 7, 8, 9, 10, 11, 12, 13, 14], [], []⟩ [
  ⟨some 6, .mov (.t 5), none, []⟩,
  ⟨some 7, .mov (.t 0), none, []⟩,
  ⟨some 8, .len false (.t 7), none, []⟩,
  ⟨some 9, .bin .int .lss (.t 6) (.t 8), none, []⟩,
  ⟨some 10, .mov (.t 9), none, []⟩,
  ⟨some 11, .mov (.t 5), (some (10, true)), []⟩,
  ⟨some 12, .mov (.t 1), (some (10, true)), []⟩,
  ⟨some 13, .len false (.t 12), (some (10, true)), []⟩,
  ⟨some 14, .bin .int .lss (.t 11) (.t 13), (some (10, true)), []⟩,
  ⟨some 15, .pick (.t 10) (.t 14) (.c (.bool false)), none, []⟩] [] false)
    (.cond (.t 15)
      (.skip)
      (.exit 0)))
    (.seq (.block 1 (.seq (.region [
  ⟨some 18, .mov (.t 0), none, []⟩,
  ⟨some 19, .mov (.t 5), none, []⟩,
  ⟨some 20, .ia 1 (.t 18) (.t 19), none, [0, 1]⟩,
  ⟨some 21, .load none (.t 20), none, [2]⟩,
  ⟨some 22, .mov (.t 1), none, []⟩,
  ⟨some 23, .mov (.t 5), none, []⟩,
  ⟨some 24, .ia 1 (.t 22) (.t 23), none, [4, 5]⟩,
  ⟨some 25, .load none (.t 24), none, [6]⟩,
  ⟨some 26, .bin .int .neq (.t 21) (.t 25), none, [3, 7]⟩] [] true)
      (.cond (.t 26)
        (.seq (.region [
  ⟨some 27, .mov (.t 0), none, []⟩,
  ⟨some 28, .mov (.t 5), none, []⟩,
  ⟨some 29, .ia 1 (.t 27) (.t 28), none, [0, 1]⟩,
  ⟨some 30, .load none (.t 29), none, [2]⟩,
  ⟨some 31, .mov (.t 1), none, []⟩,
  ⟨some 32, .mov (.t 5), none, []⟩,
  ⟨some 33, .ia 1 (.t 31) (.t 32), none, [4, 5]⟩,
  ⟨some 34, .load none (.t 33), none, [6]⟩,
  ⟨some 35, .bin .int .lss (.t 30) (.t 34), none, [3, 7]⟩,
  ⟨some 4, .mov (.t 35), none, [8, 0, 1, 2, 3, 4, 5, 6, 7, 8]⟩] [] true)
        (.ret))
        (.skip))))
    (.region [
  ⟨some 16, .mov (.t 5), none, []⟩,
  ⟨some 17, .bin .int .add (.t 16) (.c (.int .i64 1)), none, []⟩,
  ⟨some 5, .mov (.t 17), none, []⟩] [] false)))))
  (.seq (.region [
  ⟨some 36, .mov (.t 0), none, []⟩,
  ⟨some 37, .len false (.t 36), none, []⟩,
  ⟨some 38, .mov (.t 1), none, []⟩,
  ⟨some 39, .len false (.t 38), none, []⟩,
  ⟨some 40, .bin .int .lss (.t 37) (.t 39), none, []⟩,
  ⟨some 4, .mov (.t 40), none, []⟩] [] false)
  (.ret)))
def tf151 : TFunc := { np := 2, nt := 41, res := [.tmp 4], own := false, body := tc151 }
noncomputable def S151_L1 (a0 : (List Int)) (a1 : (List Int)) (x1 : Int) : Option (LR Int Bool) :=
  jn (σ := Bool) (α := (LR Int Bool)) (br (decide (x1 < ((List.length a0 : Nat) : Int)))
  (inlO (some (decide (x1 < ((List.length a1 : Nat) : Int)))))
  (inlO (some false))) fun x2 =>
  br x2
  (bno (lookI a0 x1) fun y3 =>
  bno (lookI a1 x1) fun y4 =>
  br (decide (¬ y3 = y4))
  (bno (lookI a0 x1) fun y5 =>
  bno (lookI a1 x1) fun y6 =>
  finO (some (decide (y5 < y6))))
  (nxO (some (wi (x1 + (1 : Int))))))
  (dnO (some x1))
noncomputable def S151 (a0 : (List Int)) (a1 : (List Int)) : Option Bool :=
  lp (S151_L1 a0 a1) (0 : Int) fun x7 =>
  some (decide (((List.length a0 : Nat) : Int) < ((List.length a1 : Nat) : Int)))
theorem s151 (a0 : (List Int)) (a1 : (List Int)) : tf151.run [] [(.sl .int), (.sl .int)] .bool (a0, a1) = S151 a0 a1 := by kernel_rfl
noncomputable def P151 (a0 : (List Int)) (a1 : (List Int)) : Option Bool := S151 a0 a1
noncomputable def k151 : CSpec := ⟨151, [(.sl .int), (.sl .int)], .bool, fun x => P151 x.1 x.2, false, []⟩
theorem r151 {S : Seat} (h : Ok1 S 151 tf151) : Rt S k151 := fun x y hy =>
  Ok1.sound h (C := []) CSound.nil rfl rfl rfl ((s151 x.1 x.2).trans hy) rfl

/- tallyhall/tallyref1.Entries -/
def tc122 : TCode :=
  .seq (.region [
  ⟨some 2, .box (.t 0), none, []⟩,
  ⟨some 4, .mov (.c (.int .i64 0)), none, []⟩] [] false)
  (.seq (.region [
  ⟨some 9, .load (some 1) (.t 2), none, []⟩,
  ⟨some 10, .call false [] 125 [(.t 9)], none, []⟩,
  ⟨some 5, .mov (.t 10), none, []⟩] [] false)
  (.seq (.seq (.region [
  ⟨some 11, .mov (.t 5), none, []⟩,
  ⟨some 12, .bin .int .neq (.t 11) (.c (.int .i64 0)), none, []⟩] [] false)
  (.cond (.t 12)
    (.seq (.region [
  ⟨some 13, .mov (.t 5), none, []⟩,
  ⟨some 4, .mov (.t 13), none, []⟩] [] false)
    (.ret))
    (.skip)))
  (.seq (.seq (.region [
  ⟨some 6, .mov (.c (.int .i64 0)), none, []⟩] [] false)
  (.loop ⟨[.slot 6 .int], [5, 7, 8, 14, 15, 16, 17, 18, 19, 20, 21, 22, 23, 24, 25, 26, 27, 28, 30, 31, 32, 33, 34, 35, 36, 37, 38, 39, 40, 41, 42, 43, 44, 45, 46, 47, 48, 49, 50, 51, 52, 53, 54, 55, 56, 57, 58, 59, 60, 61, 62, 63, 64, 65, 66, 67, 68, 69, 70], [], []⟩ 0 (.seq (.seq (.region [
  ⟨some 14, .mov (.t 6), none, []⟩,
  ⟨some 15, .mov (.t 1), none, []⟩,
  ⟨some 16, .len false (.t 15), none, []⟩,
  ⟨some 17, .bin .int .lss (.t 14) (.t 16), none, []⟩] [] false)
    (.cond (.t 17)
      (.skip)
      (.exit 0)))
    (.seq (.block 1 (.seq (.region [
  ⟨some 20, .load (some 1) (.t 2), none, []⟩,
  ⟨some 21, .mov (.t 1), none, []⟩,
  ⟨some 22, .mov (.t 6), none, []⟩,
  ⟨some 23, .ia 2 (.t 21) (.t 22), none, [1, 2]⟩,
  ⟨some 24, .fa 0 (.t 23), none, [3]⟩,
  ⟨some 25, .load none (.t 24), none, [4]⟩,
  ⟨some 26, .call false [] 123 [(.t 20), (.t 25)], none, [0, 5]⟩,
  ⟨some 5, .mov (.t 26), none, [6, 6, 0, 1, 2, 3, 4, 5, 6]⟩] [] true)
      (.seq (.seq (.region [
  ⟨some 27, .mov (.t 5), none, []⟩,
  ⟨some 28, .bin .int .neq (.t 27) (.c (.int .i64 0)), none, []⟩] [] false)
      (.cond (.t 28)
        (.seq (.region [
  ⟨some 29, .mov (.t 5), none, []⟩,
  ⟨some 4, .mov (.t 29), none, []⟩] [] false)
        (.ret))
        (.skip)))
      (.seq (.region [
  ⟨some 30, .load (some 1) (.t 2), none, []⟩,
  ⟨some 31, .mov (.t 1), none, []⟩,
  ⟨some 32, .mov (.t 6), none, []⟩,
  ⟨some 33, .ia 2 (.t 31) (.t 32), none, [1, 2]⟩,
  ⟨some 34, .fa 0 (.t 33), none, [3]⟩,
  ⟨some 35, .load none (.t 34), none, [4]⟩,
  ⟨some 36, .call false [] 130 [(.t 30), (.t 35)], none, [0, 5]⟩,
  ⟨some 7, .mov (.t 36), none, [6, 6, 0, 1, 2, 3, 4, 5, 6]⟩] [] true)
      (.seq (.seq (.region [
  ⟨some 37, .mov (.t 7), none, []⟩,
  ⟨some 38, .un .not (.t 37), none, []⟩] [] false)
      (.cond (.t 38)
        (.seq (.region [
  ⟨some 4, .mov (.c (.int .i64 6)), none, []⟩] [] false)
        (.ret))
        (.skip)))
      (.seq (.seq (.regionJ ⟨[.slot 52 .bool], [39, 40, 41, 42, 43, 44, 45, 46, 47, 48, 49, 50, 51], [], []⟩ [
  ⟨some 39, .mov (.t 1), none, []⟩,
  ⟨some 40, .mov (.t 6), none, []⟩,
  ⟨some 41, .ia 2 (.t 39) (.t 40), none, []⟩,
  ⟨some 42, .fa 1 (.t 41), none, []⟩,
  ⟨some 43, .load none (.t 42), none, []⟩,
  ⟨some 44, .bin .int .lss (.t 43) (.c (.int .i64 (-1000000))), none, []⟩,
  ⟨some 45, .mov (.t 44), none, []⟩,
  ⟨some 46, .mov (.t 1), (some (45, false)), []⟩,
  ⟨some 47, .mov (.t 6), (some (45, false)), []⟩,
  ⟨some 48, .ia 2 (.t 46) (.t 47), (some (45, false)), []⟩,
  ⟨some 49, .fa 1 (.t 48), (some (45, false)), []⟩,
  ⟨some 50, .load none (.t 49), (some (45, false)), []⟩,
  ⟨some 51, .bin .int .gtr (.t 50) (.c (.int .i64 1000000)), (some (45, false)), []⟩,
  ⟨some 52, .pick (.t 45) (.c (.bool true)) (.t 51), none, []⟩] [] false)
      (.cond (.t 52)
        (.seq (.region [
  ⟨some 4, .mov (.c (.int .i64 1)), none, []⟩] [] false)
        (.ret))
        (.skip)))
      (.seq (.regionJ ⟨[.slot 8 .bool], [53, 54, 55, 56, 57, 58, 59, 60, 61, 62, 63, 64, 65, 66, 67, 68], [], []⟩ [
  ⟨some 53, .mov (.t 6), none, []⟩,
  ⟨some 54, .bin .int .eql (.t 53) (.c (.int .i64 0)), none, [0]⟩,
  ⟨some 55, .mov (.t 54), none, [1]⟩,
  ⟨some 56, .mov (.t 1), (some (55, false)), [2]⟩,
  ⟨some 57, .mov (.t 6), (some (55, false)), [2]⟩,
  ⟨some 58, .bin .int .sub (.t 57) (.c (.int .i64 1)), (some (55, false)), [4, 2]⟩,
  ⟨some 59, .ia 2 (.t 56) (.t 58), (some (55, false)), [3, 5, 2]⟩,
  ⟨some 60, .fa 0 (.t 59), (some (55, false)), [6, 2]⟩,
  ⟨some 61, .load none (.t 60), (some (55, false)), [7, 2]⟩,
  ⟨some 62, .mov (.t 1), (some (55, false)), [2]⟩,
  ⟨some 63, .mov (.t 6), (some (55, false)), [2]⟩,
  ⟨some 64, .ia 2 (.t 62) (.t 63), (some (55, false)), [9, 10, 2]⟩,
  ⟨some 65, .fa 0 (.t 64), (some (55, false)), [11, 2]⟩,
  ⟨some 66, .load none (.t 65), (some (55, false)), [12, 2]⟩,
  ⟨some 67, .call false [] 151 [(.t 61), (.t 66)], (some (55, false)), [8, 13, 2, 2]⟩,
  ⟨some 68, .pick (.t 55) (.c (.bool true)) (.t 67), none, [2, 14]⟩,
  ⟨some 8, .mov (.t 68), none, [15, 14, 0, 1, 2, 3, 4, 5, 6, 7, 8, 9, 10, 11, 12, 13, 14, 15]⟩] [] true)
      (.seq (.region [
  ⟨some 69, .mov (.t 8), none, []⟩,
  ⟨some 70, .un .not (.t 69), none, []⟩] [] false)
      (.cond (.t 70)
        (.seq (.region [
  ⟨some 4, .mov (.c (.int .i64 7)), none, []⟩] [] false)
        (.ret))
        (.skip))))))))))
    (.region [
  ⟨some 18, .mov (.t 6), none, []⟩,
  ⟨some 19, .bin .int .add (.t 18) (.c (.int .i64 1)), none, []⟩,
  ⟨some 6, .mov (.t 19), none, []⟩] [] false)))))
  (.seq (.region [
  ⟨some 4, .mov (.c (.int .i64 0)), none, []⟩] [] false)
  (.ret)))))
def tf122 : TFunc := { np := 2, nt := 71, res := [.tmp 4], own := false, body := tc122 }
noncomputable def S122_L1 (F123 : (List Dim) → (List Int) → (Option Int)) (F130 : (List Dim) → (List Int) → (Option Bool)) (F151 : (List Int) → (List Int) → (Option Bool)) (a0 : (List Dim)) (a1 : (List Entry)) (x2 : Int) : Option (LR Int Int) :=
  br (decide (x2 < ((List.length a1 : Nat) : Int)))
  (bno (lookI a1 x2) fun y3 =>
  bno (F123 a0 (Entry.at_ y3)) fun y4 =>
  br (decide (¬ y4 = (0 : Int)))
  (finO (some y4))
  (bno (lookI a1 x2) fun y5 =>
  bno (F130 a0 (Entry.at_ y5)) fun y6 =>
  br (!y6)
  (finO (some (6 : Int)))
  (jn (σ := Bool) (α := (LR Int Int)) (bno (lookI a1 x2) fun y7 =>
  br (decide ((Entry.n y7) < (-1000000 : Int)))
  (inlO (some true))
  (bno (lookI a1 x2) fun y8 =>
  inlO (some (decide ((1000000 : Int) < (Entry.n y8)))))) fun x9 =>
  br x9
  (finO (some (1 : Int)))
  (jn (σ := Bool) (α := (LR Int Int)) (br (decide (x2 = (0 : Int)))
  (inlO (some true))
  (bno (lookI a1 (wi (x2 - (1 : Int)))) fun y10 =>
  bno (lookI a1 x2) fun y11 =>
  bno (F151 (Entry.at_ y10) (Entry.at_ y11)) fun y12 =>
  inlO (some y12))) fun x13 =>
  br (!x13)
  (finO (some (7 : Int)))
  (nxO (some (wi (x2 + (1 : Int)))))))))
  (dnO (some x2))
noncomputable def S122 (F123 : (List Dim) → (List Int) → (Option Int)) (F125 : (List Dim) → (Option Int)) (F130 : (List Dim) → (List Int) → (Option Bool)) (F151 : (List Int) → (List Int) → (Option Bool)) (a0 : (List Dim)) (a1 : (List Entry)) : Option Int :=
  bno (F125 a0) fun y1 =>
  br (decide (¬ y1 = (0 : Int)))
  (some y1)
  (lp (S122_L1 F123 F130 F151 a0 a1) (0 : Int) fun x14 =>
  some (0 : Int))
theorem s122 (F123 : (List Dim) → (List Int) → (Option Int)) (F125 : (List Dim) → (Option Int)) (F130 : (List Dim) → (List Int) → (Option Bool)) (F151 : (List Int) → (List Int) → (Option Bool)) (a0 : (List Dim)) (a1 : (List Entry)) : tf122.run [⟨123, [(.st .outl), (.sl .int)], .int, fun x => F123 x.1 x.2, false, []⟩,
  ⟨125, [(.st .outl)], .int, fun x => F125 x, false, []⟩,
  ⟨130, [(.st .outl), (.sl .int)], .bool, fun x => F130 x.1 x.2, false, []⟩,
  ⟨151, [(.sl .int), (.sl .int)], .bool, fun x => F151 x.1 x.2, false, []⟩] [(.st .outl), (.sl .entry)] .int (a0, a1) = S122 F123 F125 F130 F151 a0 a1 := by kernel_rfl
noncomputable def P122 (a0 : (List Dim)) (a1 : (List Entry)) : Option Int := S122 P123 P125 P130 P151 a0 a1
noncomputable def k122 : CSpec := ⟨122, [(.st .outl), (.sl .entry)], .int, fun x => P122 x.1 x.2, false, []⟩
theorem r122 {S : Seat} (h : Ok1 S 122 tf122) (h123 : Rt S k123) (h125 : Rt S k125) (h130 : Rt S k130) (h151 : Rt S k151) : Rt S k122 := fun x y hy =>
  Ok1.sound h (C := [k123, k125, k130, k151]) (CSound.cons h123 (CSound.cons h125 (CSound.cons h130 (CSound.cons h151 CSound.nil)))) rfl rfl rfl ((s122 P123 P125 P130 P151 x.1 x.2).trans hy) rfl

/- tallyhall/tallyref1.PlaceWeight -/
def tc129 : TCode :=
  .seq (.region [
  ⟨some 3, .box (.t 0), none, []⟩,
  ⟨some 6, .mov (.c (.int .i64 0)), none, []⟩,
  ⟨some 7, .mov (.c (.bool false)), none, []⟩] [] false)
  (.seq (.region [
  ⟨some 8, .mov (.c (.int .i64 1)), none, []⟩] [] false)
  (.seq (.seq (.region [
  ⟨some 9, .mov (.c (.int .i64 0)), none, []⟩] [] false)
  (.loop ⟨[.slot 8 .int, .slot 9 .int], [10, 11, 12, 13, 14, 15, 16, 17, 18, 19, 20, 21, 22, 23, 24, 25, 26, 27, 28, 29, 30, 31, 32, 33, 34, 35, 36, 37, 38, 39], [], []⟩ 0 (.seq (.seq (.region [
  ⟨some 12, .mov (.t 9), none, []⟩,
  ⟨some 13, .mov (.t 1), none, []⟩,
  ⟨some 14, .len false (.t 13), none, []⟩,
  ⟨some 15, .bin .int .lss (.t 12) (.t 14), none, []⟩] [] false)
    (.cond (.t 15)
      (.skip)
      (.exit 0)))
    (.seq (.block 1 (.seq (.region [
  ⟨some 19, .fa 0 (.t 3), none, []⟩,
  ⟨some 20, .load none (.t 19), none, [0]⟩,
  ⟨some 21, .mov (.t 9), none, []⟩,
  ⟨some 22, .ia 3 (.t 20) (.t 21), none, [1, 2]⟩,
  ⟨some 23, .load (some 3) (.t 22), none, [3]⟩,
  ⟨some 24, .mov (.t 1), none, []⟩,
  ⟨some 25, .mov (.t 9), none, []⟩,
  ⟨some 26, .ia 1 (.t 24) (.t 25), none, [5, 6]⟩,
  ⟨some 27, .load none (.t 26), none, [7]⟩,
  ⟨some 28, .mov (.t 2), none, []⟩,
  ⟨some 29, .mov (.t 9), none, []⟩,
  ⟨some 30, .ia 1 (.t 28) (.t 29), none, [9, 10]⟩,
  ⟨some 31, .load none (.t 30), none, [11]⟩,
  ⟨some 32, .call false [] 103 [(.t 23), (.t 27), (.t 31)], none, [4, 8, 12]⟩,
  ⟨some 18, .mov (.t 32), none, [13]⟩,
  ⟨some 33, .ext (.t 18) 0, none, [14]⟩,
  ⟨some 34, .ext (.t 18) 1, none, [14]⟩,
  ⟨some 10, .mov (.t 33), none, [15, 13, 0, 1, 2, 3, 4, 5, 6, 7, 8, 9, 10, 11, 12, 13, 14, 15]⟩,
  ⟨some 11, .mov (.t 34), none, [16, 17, 0, 1, 2, 3, 4, 5, 6, 7, 8, 9, 10, 11, 12, 13, 14, 15, 16, 17]⟩] [] true)
      (.seq (.seq (.region [
  ⟨some 35, .mov (.t 11), none, []⟩,
  ⟨some 36, .un .not (.t 35), none, []⟩] [] false)
      (.cond (.t 36)
        (.seq (.region [
  ⟨some 6, .mov (.c (.int .i64 0)), none, []⟩,
  ⟨some 7, .mov (.c (.bool false)), none, []⟩] [] false)
        (.ret))
        (.skip)))
      (.region [
  ⟨some 37, .mov (.t 8), none, []⟩,
  ⟨some 38, .mov (.t 10), none, []⟩,
  ⟨some 39, .bin .int .mul (.t 37) (.t 38), none, []⟩,
  ⟨some 8, .mov (.t 39), none, []⟩] [] false))))
    (.region [
  ⟨some 16, .mov (.t 9), none, []⟩,
  ⟨some 17, .bin .int .add (.t 16) (.c (.int .i64 1)), none, []⟩,
  ⟨some 9, .mov (.t 17), none, []⟩] [] false)))))
  (.seq (.region [
  ⟨some 40, .mov (.t 8), none, []⟩,
  ⟨some 6, .mov (.t 40), none, []⟩,
  ⟨some 7, .mov (.c (.bool true)), none, []⟩] [] false)
  (.ret))))
def tf129 : TFunc := { np := 3, nt := 41, res := [.tmp 6, .tmp 7], own := false, body := tc129 }
noncomputable def S129_L1 (F103 : Dim → Int → Int → (Option (Int × Bool))) (a0 : (List Dim)) (a1 : (List Int)) (a2 : (List Int)) (x1 : (Int × Int)) : Option (LR (Int × Int) (Int × Bool)) :=
  br (decide (x1.2 < ((List.length a1 : Nat) : Int)))
  (bno (lookI a0 x1.2) fun y2 =>
  bno (lookI a1 x1.2) fun y3 =>
  bno (lookI a2 x1.2) fun y4 =>
  bno (F103 y2 y3 y4) fun y5 =>
  br (!y5.2)
  (finO (some ((0 : Int), false)))
  (nxO (some (wi (x1.1 * y5.1), wi (x1.2 + (1 : Int))))))
  (dnO (some (x1.1, x1.2)))
noncomputable def S129 (F103 : Dim → Int → Int → (Option (Int × Bool))) (a0 : (List Dim)) (a1 : (List Int)) (a2 : (List Int)) : Option (Int × Bool) :=
  lp (S129_L1 F103 a0 a1 a2) ((1 : Int), (0 : Int)) fun x6 =>
  some (x6.1, true)
theorem s129 (F103 : Dim → Int → Int → (Option (Int × Bool))) (a0 : (List Dim)) (a1 : (List Int)) (a2 : (List Int)) : tf129.run [⟨103, [(.st .dim), .int, .int], (.tp [.int, .bool]), fun x => F103 x.1 x.2.1 x.2.2, false, []⟩] [(.st .outl), (.sl .int), (.sl .int)] (.tp [.int, .bool]) (a0, a1, a2) = S129 F103 a0 a1 a2 := by kernel_rfl
noncomputable def P129 (a0 : (List Dim)) (a1 : (List Int)) (a2 : (List Int)) : Option (Int × Bool) := S129 P103 a0 a1 a2
noncomputable def k129 : CSpec := ⟨129, [(.st .outl), (.sl .int), (.sl .int)], (.tp [.int, .bool]), fun x => P129 x.1 x.2.1 x.2.2, false, []⟩
theorem r129 {S : Seat} (h : Ok1 S 129 tf129) (h103 : Rt S k103) : Rt S k129 := fun x y hy =>
  Ok1.sound h (C := [k103]) (CSound.cons h103 CSound.nil) rfl rfl rfl ((s129 P103 x.1 x.2.1 x.2.2).trans hy) rfl

/- tallyhall/tallyref1.Number -/
def tc140 : TCode :=
  .seq (.region [
  ⟨some 2, .box (.t 0), none, []⟩,
  ⟨some 4, .mov (.c (.int .i64 0)), none, []⟩] [] false)
  (.seq (.region [
  ⟨some 5, .mov (.c (.int .i64 0)), none, []⟩] [] false)
  (.seq (.seq (.region [
  ⟨some 6, .mov (.c (.int .i64 0)), none, []⟩] [] false)
  (.loop ⟨[.slot 5 .int, .slot 6 .int], [7, 8, 9, 10, 11, 12, 13, 14, 15, 16, 17, 18, 19, 20, 21, 22, 23, 24, 25, 26], [], []⟩ 0 (.seq (.seq (.region [
  ⟨some 7, .mov (.t 6), none, []⟩,
  ⟨some 8, .mov (.t 1), none, []⟩,
  ⟨some 9, .len false (.t 8), none, []⟩,
  ⟨some 10, .bin .int .lss (.t 7) (.t 9), none, []⟩] [] false)
    (.cond (.t 10)
      (.skip)
      (.exit 0)))
    (.seq (.block 1 (.region [
  ⟨some 13, .mov (.t 5), none, []⟩,
  ⟨some 14, .fa 0 (.t 2), none, []⟩,
  ⟨some 15, .load none (.t 14), none, [1]⟩,
  ⟨some 16, .mov (.t 6), none, []⟩,
  ⟨some 17, .ia 3 (.t 15) (.t 16), none, [2, 3]⟩,
  ⟨some 18, .fa 2 (.t 17), none, [4]⟩,
  ⟨some 19, .load none (.t 18), none, [5]⟩,
  ⟨some 20, .len false (.t 19), none, [6]⟩,
  ⟨some 21, .bin .int .mul (.t 13) (.t 20), none, [0, 7]⟩,
  ⟨some 22, .mov (.t 1), none, []⟩,
  ⟨some 23, .mov (.t 6), none, []⟩,
  ⟨some 24, .ia 1 (.t 22) (.t 23), none, [9, 10]⟩,
  ⟨some 25, .load none (.t 24), none, [11]⟩,
  ⟨some 26, .bin .int .add (.t 21) (.t 25), none, [8, 12]⟩,
  ⟨some 5, .mov (.t 26), none, [13, 0, 1, 2, 3, 4, 5, 6, 7, 8, 9, 10, 11, 12, 13]⟩] [] true))
    (.region [
  ⟨some 11, .mov (.t 6), none, []⟩,
  ⟨some 12, .bin .int .add (.t 11) (.c (.int .i64 1)), none, []⟩,
  ⟨some 6, .mov (.t 12), none, []⟩] [] false)))))
  (.seq (.region [
  ⟨some 27, .mov (.t 5), none, []⟩,
  ⟨some 4, .mov (.t 27), none, []⟩] [] false)
  (.ret))))
def tf140 : TFunc := { np := 2, nt := 28, res := [.tmp 4], own := false, body := tc140 }
noncomputable def S140_L1 (a0 : (List Dim)) (a1 : (List Int)) (x1 : (Int × Int)) : Option (LR (Int × Int) Int) :=
  br (decide (x1.2 < ((List.length a1 : Nat) : Int)))
  (bno (lookI a0 x1.2) fun y2 =>
  bno (lookI a1 x1.2) fun y3 =>
  nxO (some (wi ((wi (x1.1 * ((List.length (Dim.members y2) : Nat) : Int))) + y3), wi (x1.2 + (1 : Int)))))
  (dnO (some (x1.1, x1.2)))
noncomputable def S140 (a0 : (List Dim)) (a1 : (List Int)) : Option Int :=
  lp (S140_L1 a0 a1) ((0 : Int), (0 : Int)) fun x4 =>
  some x4.1
theorem s140 (a0 : (List Dim)) (a1 : (List Int)) : tf140.run [] [(.st .outl), (.sl .int)] .int (a0, a1) = S140 a0 a1 := by kernel_rfl
noncomputable def P140 (a0 : (List Dim)) (a1 : (List Int)) : Option Int := S140 a0 a1
noncomputable def k140 : CSpec := ⟨140, [(.st .outl), (.sl .int)], .int, fun x => P140 x.1 x.2, false, []⟩
theorem r140 {S : Seat} (h : Ok1 S 140 tf140) : Rt S k140 := fun x y hy =>
  Ok1.sound h (C := []) CSound.nil rfl rfl rfl ((s140 x.1 x.2).trans hy) rfl

/- tallyhall/tallyref1.At -/
def tc142 : TCode :=
  .seq (.region [
  ⟨some 2, .box (.t 0), none, []⟩,
  ⟨some 4, .mov (.c (.slice none 0 0)), none, []⟩] [] false)
  (.seq (.region [
  ⟨some 8, .fa 0 (.t 2), none, []⟩,
  ⟨some 9, .load none (.t 8), none, []⟩,
  ⟨some 10, .len false (.t 9), none, []⟩,
  ⟨some 11, .mksl 1 [.int .i64 0] (.t 10) (.t 10), none, []⟩,
  ⟨some 5, .mov (.t 11), none, []⟩] [] false)
  (.seq (.seq (.region [
  ⟨some 12, .fa 0 (.t 2), none, []⟩,
  ⟨some 13, .load none (.t 12), none, []⟩,
  ⟨some 14, .len false (.t 13), none, []⟩,
  ⟨some 15, .bin .int .sub (.t 14) (.c (.int .i64 1)), none, []⟩,
  ⟨some 6, .mov (.t 15), none, []⟩] [] false)
  (.loop ⟨[.slot 1 .int, .slot 6 .int, .rowH 11 .int], [7, 16, 17, 18, 19, 20, 21, 22, 23, 24, 25, 26, 27, 28, 29, 30, 31, 32, 33, 34, 35], [], []⟩ 0 (.seq (.seq (.region [
  ⟨some 16, .mov (.t 6), none, []⟩,
  ⟨some 17, .bin .int .geq (.t 16) (.c (.int .i64 0)), none, []⟩] [] false)
    (.cond (.t 17)
      (.skip)
      (.exit 0)))
    (.seq (.block 1 (.seq (.region [
  ⟨some 20, .fa 0 (.t 2), none, []⟩,
  ⟨some 21, .load none (.t 20), none, []⟩,
  ⟨some 22, .mov (.t 6), none, []⟩,
  ⟨some 23, .ia 3 (.t 21) (.t 22), none, []⟩,
  ⟨some 24, .fa 2 (.t 23), none, []⟩,
  ⟨some 25, .load none (.t 24), none, []⟩,
  ⟨some 26, .len false (.t 25), none, []⟩,
  ⟨some 7, .mov (.t 26), none, []⟩] [] false)
      (.seq (.region [
  ⟨some 27, .mov (.t 5), none, []⟩,
  ⟨some 28, .mov (.t 6), none, []⟩,
  ⟨some 29, .mov (.t 1), none, []⟩,
  ⟨some 30, .mov (.t 7), none, []⟩,
  ⟨some 31, .bin .int .rem (.t 29) (.t 30), none, []⟩,
  ⟨some 32, .ia 1 (.t 27) (.t 28), none, []⟩,
  ⟨none, .store 1 (.t 32) (.t 31), none, []⟩] [] false)
      (.region [
  ⟨some 33, .mov (.t 1), none, []⟩,
  ⟨some 34, .mov (.t 7), none, []⟩,
  ⟨some 35, .bin .int .quo (.t 33) (.t 34), none, []⟩,
  ⟨some 1, .mov (.t 35), none, []⟩] [] false))))
    (.region [
  ⟨some 18, .mov (.t 6), none, []⟩,
  ⟨some 19, .bin .int .sub (.t 18) (.c (.int .i64 1)), none, []⟩,
  ⟨some 6, .mov (.t 19), none, []⟩] [] false)))))
  (.seq (.region [
  ⟨some 36, .mov (.t 5), none, []⟩,
  ⟨some 4, .mov (.t 36), none, []⟩] [] false)
  (.ret))))
def tf142 : TFunc := { np := 2, nt := 37, res := [.tmp 4], own := false, body := tc142 }
noncomputable def S142_L1 (a0 : (List Dim)) (x1 : (Int × Int × (List Int))) : Option (LR (Int × Int × (List Int)) (List Int)) :=
  br (decide ((0 : Int) ≤ x1.2.1))
  (bno (lookI a0 x1.2.1) fun y2 =>
  ck (decide (¬ ((List.length (Dim.members y2) : Nat) : Int) = 0)) <|
  ck (decide (0 ≤ x1.2.1 ∧ x1.2.1 < ((List.length x1.2.2 : Nat) : Int))) <|
  bno ((x1.2.2)[(Int.toNat x1.2.1)]?) fun y3 =>
  ck (decide (¬ ((List.length (Dim.members y2) : Nat) : Int) = 0)) <|
  nxO (some (wi (Int.tdiv x1.1 ((List.length (Dim.members y2) : Nat) : Int)), wi (x1.2.1 - (1 : Int)), List.set x1.2.2 (Int.toNat x1.2.1) (Int.tmod x1.1 ((List.length (Dim.members y2) : Nat) : Int)))))
  (dnO (some (x1.1, x1.2.1, x1.2.2)))
noncomputable def S142 (a0 : (List Dim)) (a1 : Int) : Option (List Int) :=
  ck (decide (0 ≤ ((List.length a0 : Nat) : Int) ∧ ((List.length a0 : Nat) : Int) ≤ ((List.length a0 : Nat) : Int) ∧ ((List.length a0 : Nat) : Int) ≤ roomA)) <|
  lp (S142_L1 a0) (a1, wi (((List.length a0 : Nat) : Int) - (1 : Int)), List.replicate (Int.toNat ((List.length a0 : Nat) : Int)) (0 : Int)) fun x4 =>
  some x4.2.2
theorem s142 (a0 : (List Dim)) (a1 : Int) : tf142.run [] [(.st .outl), .int] (.sl .int) (a0, a1) = S142 a0 a1 := by kernel_rfl
noncomputable def P142 (a0 : (List Dim)) (a1 : Int) : Option (List Int) := S142 a0 a1
noncomputable def k142 : CSpec := ⟨142, [(.st .outl), .int], (.sl .int), fun x => P142 x.1 x.2, false, []⟩
theorem r142 {S : Seat} (h : Ok1 S 142 tf142) : Rt S k142 := fun x y hy =>
  Ok1.sound h (C := []) CSound.nil rfl rfl rfl ((s142 x.1 x.2).trans hy) rfl

/- tallyhall/tallyref1.Roll -/
def tc124 : TCode :=
  .seq (.region [
  ⟨some 3, .box (.t 0), none, []⟩,
  ⟨some 6, .alloc [.int .i64 0, .int .i64 0], none, []⟩] [] false)
  (.seq (.region [
  ⟨some 7, .alloc [.int .i64 0, .int .i64 0], none, []⟩] [] false)
  (.seq (.seq (.region [
  ⟨some 8, .mov (.c (.int .i64 0)), none, []⟩] [] false)
  (.loop ⟨[.slot 8 .int, .var 7 [.sh .int, .sh .int]], [9, 10, 11, 12, 13, 14, 15, 16, 17, 18, 19, 20, 21, 22, 23, 24, 25, 26, 27, 28, 29, 30, 31, 32, 33, 34, 35, 36, 37, 38, 39, 40, 41, 42, 43, 44], [], []⟩ 0 (.seq (.seq (.region [
  ⟨some 11, .mov (.t 8), none, []⟩,
  ⟨some 12, .mov (.t 1), none, []⟩,
  ⟨some 13, .len false (.t 12), none, []⟩,
  ⟨some 14, .bin .int .lss (.t 11) (.t 13), none, []⟩] [] false)
    (.cond (.t 14)
      (.skip)
      (.exit 0)))
    (.seq (.block 1 (.seq (.region [
  ⟨some 18, .load (some 1) (.t 3), none, []⟩,
  ⟨some 19, .mov (.t 2), none, []⟩,
  ⟨some 20, .mov (.t 1), none, []⟩,
  ⟨some 21, .mov (.t 8), none, []⟩,
  ⟨some 22, .ia 2 (.t 20) (.t 21), none, [2, 3]⟩,
  ⟨some 23, .fa 0 (.t 22), none, [4]⟩,
  ⟨some 24, .load none (.t 23), none, [5]⟩,
  ⟨some 25, .call false [] 129 [(.t 18), (.t 19), (.t 24)], none, [0, 1, 6]⟩,
  ⟨some 17, .mov (.t 25), none, [7]⟩,
  ⟨some 26, .ext (.t 17) 0, none, [8]⟩,
  ⟨some 27, .ext (.t 17) 1, none, [8]⟩,
  ⟨some 9, .mov (.t 26), none, [9, 7, 0, 1, 2, 3, 4, 5, 6, 7, 8, 9]⟩,
  ⟨some 10, .mov (.t 27), none, [10, 11, 0, 1, 2, 3, 4, 5, 6, 7, 8, 9, 10, 11]⟩] [] true)
      (.seq (.regionJ ⟨[.slot 32 .bool], [28, 29, 30, 31], [], []⟩ [
  ⟨some 28, .mov (.t 10), none, []⟩,
  ⟨some 29, .mov (.t 28), none, []⟩,
  ⟨some 30, .mov (.t 9), (some (29, true)), []⟩,
  ⟨some 31, .bin .int .neq (.t 30) (.c (.int .i64 0)), (some (29, true)), []⟩,
  ⟨some 32, .pick (.t 29) (.t 31) (.c (.bool false)), none, []⟩] [] false)
      (.condJ ⟨[.var 7 [.sh .int, .sh .int]], [33, 34, 35, 36, 37, 38, 39, 40, 41, 42, 43, 44], [], []⟩ (.t 32)
        (.seq (.region [
  ⟨some 33, .fa 0 (.t 7), none, []⟩,
  ⟨none, .store 1 (.t 33) (.c (.int .i64 1)), none, []⟩] [] false)
        (.region [
  ⟨some 34, .fa 1 (.t 7), none, []⟩,
  ⟨some 35, .load none (.t 34), none, [0]⟩,
  ⟨some 36, .mov (.t 9), none, []⟩,
  ⟨some 37, .mov (.t 1), none, []⟩,
  ⟨some 38, .mov (.t 8), none, []⟩,
  ⟨some 39, .ia 2 (.t 37) (.t 38), none, [3, 4]⟩,
  ⟨some 40, .fa 1 (.t 39), none, [5]⟩,
  ⟨some 41, .load none (.t 40), none, [6]⟩,
  ⟨some 42, .bin .int .mul (.t 36) (.t 41), none, [2, 7]⟩,
  ⟨some 43, .bin .int .add (.t 35) (.t 42), none, [1, 8]⟩,
  ⟨some 44, .fa 1 (.t 7), none, [0, 1, 2, 3, 4, 5, 6, 7, 8, 9]⟩,
  ⟨none, .store 1 (.t 44) (.t 43), none, [10, 9, 0, 1, 2, 3, 4, 5, 6, 7, 8, 9]⟩] [] true))
        (.skip)))))
    (.region [
  ⟨some 15, .mov (.t 8), none, []⟩,
  ⟨some 16, .bin .int .add (.t 15) (.c (.int .i64 1)), none, []⟩,
  ⟨some 8, .mov (.t 16), none, []⟩] [] false)))))
  (.seq (.region [
  ⟨some 45, .load (some 2) (.t 7), none, []⟩,
  ⟨none, .store 2 (.t 6) (.t 45), none, []⟩] [] false)
  (.ret))))
def tf124 : TFunc := { np := 3, nt := 46, res := [.cell 6 (some 2)], own := false, body := tc124 }
noncomputable def S124_L1 (F129 : (List Dim) → (List Int) → (List Int) → (Option (Int × Bool))) (a0 : (List Dim)) (a1 : (List Entry)) (a2 : (List Int)) (x1 : (Int × (Int × Int))) : Option (LR (Int × (Int × Int)) Cell) :=
  br (decide (x1.1 < ((List.length a1 : Nat) : Int)))
  (bno (lookI a1 x1.1) fun y2 =>
  bno (F129 a0 a2 (Entry.at_ y2)) fun y3 =>
  jn (σ := Bool) (α := (LR (Int × (Int × Int)) Cell)) (br y3.2
  (inlO (some (decide (¬ y3.1 = (0 : Int)))))
  (inlO (some false))) fun x4 =>
  jn (σ := (Int × Int)) (α := (LR (Int × (Int × Int)) Cell)) (br x4
  (bno (lookI a1 x1.1) fun y5 =>
  inlO (some ((1 : Int), wi (x1.2.2 + (wi (y3.1 * (Entry.n y5)))))))
  (inlO (some (x1.2.1, x1.2.2)))) fun x6 =>
  nxO (some (wi (x1.1 + (1 : Int)), (x6.1, x6.2))))
  (dnO (some (x1.1, (x1.2.1, x1.2.2))))
noncomputable def S124 (F129 : (List Dim) → (List Int) → (List Int) → (Option (Int × Bool))) (a0 : (List Dim)) (a1 : (List Entry)) (a2 : (List Int)) : Option Cell :=
  lp (S124_L1 F129 a0 a1 a2) ((0 : Int), ((0 : Int), (0 : Int))) fun x7 =>
  some (Cell.mk x7.2.1 x7.2.2)
theorem s124 (F129 : (List Dim) → (List Int) → (List Int) → (Option (Int × Bool))) (a0 : (List Dim)) (a1 : (List Entry)) (a2 : (List Int)) : tf124.run [⟨129, [(.st .outl), (.sl .int), (.sl .int)], (.tp [.int, .bool]), fun x => F129 x.1 x.2.1 x.2.2, false, []⟩] [(.st .outl), (.sl .entry), (.sl .int)] (.st .cell) (a0, a1, a2) = S124 F129 a0 a1 a2 := by kernel_rfl
noncomputable def P124 (a0 : (List Dim)) (a1 : (List Entry)) (a2 : (List Int)) : Option Cell := S124 P129 a0 a1 a2
noncomputable def k124 : CSpec := ⟨124, [(.st .outl), (.sl .entry), (.sl .int)], (.st .cell), fun x => P124 x.1 x.2.1 x.2.2, false, []⟩
theorem r124 {S : Seat} (h : Ok1 S 124 tf124) (h129 : Rt S k129) : Rt S k124 := fun x y hy =>
  Ok1.sound h (C := [k129]) (CSound.cons h129 CSound.nil) rfl rfl rfl ((s124 P129 x.1 x.2.1 x.2.2).trans hy) rfl

/- tallyhall/tallyref1.RollLeafs -/
def tc126 : TCode :=
  .seq (.region [
  ⟨some 2, .box (.t 0), none, []⟩,
  ⟨some 4, .mov (.c (.slice none 0 0)), none, []⟩] [] false)
  (.seq (.region [
  ⟨some 5, .mov (.c (.slice none 0 0)), none, []⟩] [] false)
  (.seq (.region [
  ⟨some 12, .load (some 1) (.t 2), none, []⟩,
  ⟨some 13, .call false [] 106 [(.t 12)], none, []⟩,
  ⟨some 6, .mov (.t 13), none, []⟩] [] false)
  (.seq (.seq (.region [
  ⟨some 7, .mov (.c (.int .i64 0)), none, []⟩] [] false)
  (.loop ⟨[.row 5 38 (.sl .int), .slot 7 .int], [8, 9, 10, 11, 14, 15, 16, 17, 18, 19, 20, 21, 22, 23, 24, 25, 26, 27, 28, 29, 30, 31, 32, 33, 34, 35, 36, 37, 38], [37], []⟩ 0 (.seq (.seq (.region [
  ⟨some 14, .mov (.t 7), none, []⟩,
  ⟨some 15, .mov (.t 6), none, []⟩,
  ⟨some 16, .bin .int .lss (.t 14) (.t 15), none, []⟩] [] false)
    (.cond (.t 16)
      (.skip)
      (.exit 0)))
    (.seq (.blockJ ⟨[.row 5 38 (.sl .int)], [8, 9, 10, 11, 19, 20, 21, 22, 23, 24, 25, 26, 27, 28, 29, 30, 31, 32, 33, 34, 35, 36, 37, 38], [37], []⟩ 1 (.seq (.region [
  ⟨some 19, .load (some 1) (.t 2), none, []⟩,
  ⟨some 20, .mov (.t 7), none, []⟩,
  ⟨some 21, .call true [] 142 [(.t 19), (.t 20)], none, []⟩,
  ⟨some 8, .mov (.t 21), none, []⟩] [] false)
      (.seq (.region [
  ⟨some 22, .load (some 1) (.t 2), none, []⟩,
  ⟨some 23, .mov (.t 8), none, []⟩,
  ⟨some 24, .call false [] 130 [(.t 22), (.t 23)], none, []⟩,
  ⟨some 9, .mov (.t 24), none, []⟩] [] false)
      (.seq (.seq (.region [
  ⟨some 25, .mov (.t 9), none, []⟩,
  ⟨some 26, .un .not (.t 25), none, []⟩] [] false)
      (.cond (.t 26)
        (.exit 1)
        (.skip)))
      (.seq (.region [
  ⟨some 28, .load (some 1) (.t 2), none, []⟩,
  ⟨some 29, .mov (.t 1), none, []⟩,
  ⟨some 30, .mov (.t 8), none, []⟩,
  ⟨some 31, .call false [] 129 [(.t 28), (.t 29), (.t 30)], none, []⟩,
  ⟨some 27, .mov (.t 31), none, []⟩,
  ⟨some 32, .ext (.t 27) 0, none, []⟩,
  ⟨some 33, .ext (.t 27) 1, none, []⟩,
  ⟨some 10, .mov (.t 32), none, []⟩,
  ⟨some 11, .mov (.t 33), none, []⟩] [] false)
      (.seq (.region [
  ⟨some 34, .mov (.t 11), none, []⟩] [] false)
      (.condJ ⟨[.row 5 38 (.sl .int)], [35, 36, 37, 38], [37], []⟩ (.t 34)
        (.region [
  ⟨some 35, .mov (.t 5), none, []⟩,
  ⟨some 36, .mov (.t 8), none, []⟩,
  ⟨some 37, .bslice true 1 [.slice none 0 0] 1 [(0, (.t 36))], none, []⟩,
  ⟨some 38, .app 1 (.t 35) (.t 37), none, []⟩,
  ⟨some 5, .mov (.t 38), none, []⟩] [.int, .int, (.sl .int), (.sl .int)] false)
        (.skip))))))))
    (.region [
  ⟨some 17, .mov (.t 7), none, []⟩,
  ⟨some 18, .bin .int .add (.t 17) (.c (.int .i64 1)), none, []⟩,
  ⟨some 7, .mov (.t 18), none, []⟩] [] false)))))
  (.seq (.region [
  ⟨some 39, .mov (.t 5), none, []⟩,
  ⟨some 4, .mov (.t 39), none, []⟩] [] false)
  (.ret)))))
def tf126 : TFunc := { np := 2, nt := 40, res := [.tmp 4], own := false, body := tc126 }
noncomputable def S126_L1 (F129 : (List Dim) → (List Int) → (List Int) → (Option (Int × Bool))) (F130 : (List Dim) → (List Int) → (Option Bool)) (F142 : (List Dim) → Int → (Option (List Int))) (a0 : (List Dim)) (a1 : (List Int)) (y1 : Int) (x2 : ((List (List Int)) × Int)) : Option (LR ((List (List Int)) × Int) (List (List Int))) :=
  br (decide (x2.2 < y1))
  (jn (σ := (List (List Int))) (α := (LR ((List (List Int)) × Int) (List (List Int)))) (bno (F142 a0 x2.2) fun y3 =>
  bno (F130 a0 y3) fun y4 =>
  br (!y4)
  (inlO (some x2.1))
  (bno (F129 a0 a1 y3) fun y5 =>
  jn (σ := (List (List Int))) (α := (Sum (List (List Int)) (LR ((List (List Int)) × Int) (List (List Int))))) (br y5.2
  (ck (decide (List.length x2.1 + List.length ([y3] : List (List Int)) ≤ roomA)) <|
  inlO (some (x2.1 ++ ([y3] : List (List Int)))))
  (inlO (some x2.1))) fun x6 =>
  inlO (some x6))) fun x7 =>
  nxO (some (x7, wi (x2.2 + (1 : Int)))))
  (dnO (some (x2.1, x2.2)))
noncomputable def S126 (F106 : (List Dim) → (Option Int)) (F129 : (List Dim) → (List Int) → (List Int) → (Option (Int × Bool))) (F130 : (List Dim) → (List Int) → (Option Bool)) (F142 : (List Dim) → Int → (Option (List Int))) (a0 : (List Dim)) (a1 : (List Int)) : Option (List (List Int)) :=
  bno (F106 a0) fun y1 =>
  lp (S126_L1 F129 F130 F142 a0 a1 y1) (([] : List (List Int)), (0 : Int)) fun x8 =>
  some x8.1
theorem s126 (F106 : (List Dim) → (Option Int)) (F129 : (List Dim) → (List Int) → (List Int) → (Option (Int × Bool))) (F130 : (List Dim) → (List Int) → (Option Bool)) (F142 : (List Dim) → Int → (Option (List Int))) (a0 : (List Dim)) (a1 : (List Int)) : tf126.run [⟨106, [(.st .outl)], .int, fun x => F106 x, false, []⟩,
  ⟨129, [(.st .outl), (.sl .int), (.sl .int)], (.tp [.int, .bool]), fun x => F129 x.1 x.2.1 x.2.2, false, []⟩,
  ⟨130, [(.st .outl), (.sl .int)], .bool, fun x => F130 x.1 x.2, false, []⟩,
  ⟨142, [(.st .outl), .int], (.sl .int), fun x => F142 x.1 x.2, false, []⟩] [(.st .outl), (.sl .int)] (.sl (.sl .int)) (a0, a1) = S126 F106 F129 F130 F142 a0 a1 := by kernel_rfl
noncomputable def P126 (a0 : (List Dim)) (a1 : (List Int)) : Option (List (List Int)) := S126 P106 P129 P130 P142 a0 a1
noncomputable def k126 : CSpec := ⟨126, [(.st .outl), (.sl .int)], (.sl (.sl .int)), fun x => P126 x.1 x.2, false, []⟩
theorem r126 {S : Seat} (h : Ok1 S 126 tf126) (h106 : Rt S k106) (h129 : Rt S k129) (h130 : Rt S k130) (h142 : Rt S k142) : Rt S k126 := fun x y hy =>
  Ok1.sound h (C := [k106, k129, k130, k142]) (CSound.cons h106 (CSound.cons h129 (CSound.cons h130 (CSound.cons h142 CSound.nil)))) rfl rfl rfl ((s126 P106 P129 P130 P142 x.1 x.2).trans hy) rfl

end Ab
