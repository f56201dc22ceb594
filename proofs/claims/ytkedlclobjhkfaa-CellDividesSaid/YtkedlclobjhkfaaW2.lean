/-
  Functions of the program as typed code, what they come to, and their contracts: written by program (mk.py).
-/
import Derived.Test.YtkedlclobjhkfaaTL
import Derived.KernelRfl
import Derived.Test.YtkedlclobjhkfaaMC
namespace Ab
open Go
set_option linter.unusedVariables false
set_option maxRecDepth 100000

/- tallyhall/tallylaw4.CellDivides -/
def tc2 : TCode :=
  .seq (.region [
  ⟨some 4, .mov (.c (.bool false)), none, []⟩] [] false)
  (.seq (.seq (.regionJ ⟨[.slot 26 .bool], [13, 14, 15, 16, 17, 18, 19, 20, 21, 22, 23, 24, 25], [], []⟩ [
  ⟨some 13, .mov (.t 0), none, []⟩,
  ⟨some 14, .bin .int .lss (.t 13) (.c (.int .i64 (-1000000))), none, []⟩,
  ⟨some 15, .mov (.t 14), none, []⟩,
  ⟨some 16, .mov (.t 0), (some (15, false)), []⟩,
  ⟨some 17, .bin .int .gtr (.t 16) (.c (.int .i64 1000000)), (some (15, false)), []⟩,
  ⟨some 18, .pick (.t 15) (.c (.bool true)) (.t 17), none, []⟩,
  ⟨some 19, .mov (.t 18), none, []⟩,
  ⟨some 20, .mov (.t 1), (some (19, false)), []⟩,
  ⟨some 21, .bin .int .lss (.t 20) (.c (.int .i64 (-1000000))), (some (19, false)), []⟩,
  ⟨some 22, .pick (.t 19) (.c (.bool true)) (.t 21), none, []⟩,
  ⟨some 23, .mov (.t 22), none, []⟩,
  ⟨some 24, .mov (.t 1), (some (23, false)), []⟩,
  ⟨some 25, .bin .int .gtr (.t 24) (.c (.int .i64 1000000)), (some (23, false)), []⟩,
  ⟨some 26, .pick (.t 23) (.c (.bool true)) (.t 25), none, []⟩] [] false)
  (.cond (.t 26)
    (.seq (.region [
  ⟨some 4, .mov (.c (.bool true)), none, []⟩] [] false)
    (.ret))
    (.skip)))
  (.seq (.region [
  ⟨some 28, .mov (.t 0), none, []⟩,
  ⟨some 29, .call false [] 8 [(.t 28)], none, []⟩,
  ⟨some 30, .mov (.t 1), none, []⟩,
  ⟨some 31, .call false [] 8 [(.t 30)], none, []⟩,
  ⟨some 32, .call false [] 11 [(.t 29), (.t 31)], none, []⟩,
  ⟨some 27, .mov (.t 32), none, []⟩,
  ⟨some 33, .ext (.t 27) 0, none, []⟩,
  ⟨some 34, .ext (.t 27) 1, none, []⟩,
  ⟨some 5, .alloc [.int .i64 0, .int .i64 0], none, []⟩,
  ⟨none, .store 2 (.t 5) (.t 33), none, []⟩,
  ⟨some 6, .mov (.t 34), none, []⟩] [] false)
  (.seq (.seq (.region [
  ⟨some 35, .mov (.t 6), none, []⟩,
  ⟨some 36, .eqn false true (.t 35), none, []⟩] [] false)
  (.cond (.t 36)
    (.seq (.region [
  ⟨some 4, .mov (.c (.bool false)), none, []⟩] [] false)
    (.ret))
    (.skip)))
  (.seq (.seq (.region [
  ⟨some 37, .mov (.t 1), none, []⟩,
  ⟨some 38, .bin .int .eql (.t 37) (.c (.int .i64 0)), none, []⟩] [] false)
  (.cond (.t 38)
    (.seq (.region [
  ⟨some 39, .fa 0 (.t 5), none, []⟩,
  ⟨some 40, .load none (.t 39), none, []⟩,
  ⟨some 41, .bin .int .eql (.t 40) (.c (.int .i64 2)), none, []⟩,
  ⟨some 4, .mov (.t 41), none, []⟩] [] false)
    (.ret))
    (.skip)))
  (.seq (.region [
  ⟨some 43, .load (some 2) (.t 5), none, []⟩,
  ⟨some 44, .mov (.t 1), none, []⟩,
  ⟨some 45, .call false [] 8 [(.t 44)], none, [1]⟩,
  ⟨some 46, .call false [] 10 [(.t 43), (.t 45)], none, [0, 2, 2]⟩,
  ⟨some 42, .mov (.t 46), none, [3]⟩,
  ⟨some 47, .ext (.t 42) 0, none, [4]⟩,
  ⟨some 48, .ext (.t 42) 1, none, [4]⟩,
  ⟨some 7, .alloc [.int .i64 0, .int .i64 0], none, []⟩,
  ⟨none, .store 2 (.t 7) (.t 47), none, [7, 5, 3, 0, 1, 2, 3, 4, 5, 7]⟩,
  ⟨some 8, .mov (.t 48), none, [6, 8, 0, 1, 2, 3, 4, 5, 6, 7, 8]⟩] [] true)
  (.seq (.region [
  ⟨some 50, .mov (.t 0), none, []⟩,
  ⟨some 51, .call false [] 8 [(.t 50)], none, [0]⟩,
  ⟨some 52, .load (some 2) (.t 7), none, []⟩,
  ⟨some 53, .call false [] 12 [(.t 51), (.t 52)], none, [1, 2, 1]⟩,
  ⟨some 49, .mov (.t 53), none, [3]⟩,
  ⟨some 54, .ext (.t 49) 0, none, [4]⟩,
  ⟨some 55, .ext (.t 49) 1, none, [4]⟩,
  ⟨some 9, .alloc [.int .i64 0, .int .i64 0], none, []⟩,
  ⟨none, .store 2 (.t 9) (.t 54), none, [7, 5, 3, 0, 1, 2, 3, 4, 5, 7]⟩,
  ⟨some 10, .mov (.t 55), none, [6, 8, 0, 1, 2, 3, 4, 5, 6, 7, 8]⟩] [] true)
  (.seq (.seq (.regionJ ⟨[.slot 66 .bool], [56, 57, 58, 59, 60, 61, 62, 63, 64, 65], [], []⟩ [
  ⟨some 56, .mov (.t 8), none, []⟩,
  ⟨some 57, .eqn false true (.t 56), none, []⟩,
  ⟨some 58, .mov (.t 57), none, []⟩,
  ⟨some 59, .mov (.t 10), (some (58, false)), []⟩,
  ⟨some 60, .eqn false true (.t 59), (some (58, false)), []⟩,
  ⟨some 61, .pick (.t 58) (.c (.bool true)) (.t 60), none, []⟩,
  ⟨some 62, .mov (.t 61), none, []⟩,
  ⟨some 63, .fa 0 (.t 9), (some (62, false)), []⟩,
  ⟨some 64, .load none (.t 63), (some (62, false)), []⟩,
  ⟨some 65, .bin .int .neq (.t 64) (.c (.int .i64 1)), (some (62, false)), []⟩,
  ⟨some 66, .pick (.t 62) (.c (.bool true)) (.t 65), none, []⟩] [] false)
  (.cond (.t 66)
    (.seq (.region [
  ⟨some 4, .mov (.c (.bool false)), none, []⟩] [] false)
    (.ret))
    (.skip)))
  (.seq (.region [
  ⟨some 67, .fa 1 (.t 9), none, []⟩,
  ⟨some 68, .load none (.t 67), none, []⟩,
  ⟨some 11, .mov (.t 68), none, []⟩] [] false)
  (.seq (.region [
  ⟨some 69, .mov (.t 1), none, []⟩,
  ⟨some 12, .mov (.t 69), none, []⟩] [] false)
  (.seq (.seq (.region [
  ⟨some 70, .mov (.t 12), none, []⟩,
  ⟨some 71, .bin .int .lss (.t 70) (.c (.int .i64 0)), none, []⟩] [] false)
  (.condJ ⟨[.slot 12 .int], [72, 73], [], []⟩ (.t 71)
    (.region [
  ⟨some 72, .mov (.t 12), none, []⟩,
  ⟨some 73, .un .neg (.t 72), none, []⟩,
  ⟨some 12, .mov (.t 73), none, []⟩] [] false)
    (.skip)))
  (.seq (.regionJ ⟨[.slot 4 .bool], [74, 75, 76, 77, 78, 79, 80, 81, 82, 83, 84, 85, 86, 87, 88, 89, 90, 91, 92, 93, 94, 95, 96, 97, 98], [], []⟩ [
  ⟨some 74, .mov (.t 11), none, []⟩,
  ⟨some 75, .mov (.t 12), none, []⟩,
  ⟨some 76, .un .neg (.t 75), none, []⟩,
  ⟨some 77, .bin .int .gtr (.t 74) (.t 76), none, []⟩,
  ⟨some 78, .mov (.t 77), none, []⟩,
  ⟨some 79, .mov (.t 11), (some (78, true)), []⟩,
  ⟨some 80, .mov (.t 12), (some (78, true)), []⟩,
  ⟨some 81, .bin .int .lss (.t 79) (.t 80), (some (78, true)), []⟩,
  ⟨some 82, .pick (.t 78) (.t 81) (.c (.bool false)), none, []⟩,
  ⟨some 83, .mov (.t 82), none, []⟩,
  ⟨some 84, .mov (.t 0), (some (83, true)), []⟩,
  ⟨some 85, .bin .int .geq (.t 84) (.c (.int .i64 0)), (some (83, true)), []⟩,
  ⟨some 86, .mov (.t 85), (some (83, true)), []⟩,
  ⟨some 87, .mov (.t 11), (some (86, false)), []⟩,
  ⟨some 88, .bin .int .leq (.t 87) (.c (.int .i64 0)), (some (86, false)), []⟩,
  ⟨some 89, .pick (.t 86) (.c (.bool true)) (.t 88), (some (83, true)), []⟩,
  ⟨some 90, .pick (.t 83) (.t 89) (.c (.bool false)), none, []⟩,
  ⟨some 91, .mov (.t 90), none, []⟩,
  ⟨some 92, .mov (.t 0), (some (91, true)), []⟩,
  ⟨some 93, .bin .int .leq (.t 92) (.c (.int .i64 0)), (some (91, true)), []⟩,
  ⟨some 94, .mov (.t 93), (some (91, true)), []⟩,
  ⟨some 95, .mov (.t 11), (some (94, false)), []⟩,
  ⟨some 96, .bin .int .geq (.t 95) (.c (.int .i64 0)), (some (94, false)), []⟩,
  ⟨some 97, .pick (.t 94) (.c (.bool true)) (.t 96), (some (91, true)), []⟩,
  ⟨some 98, .pick (.t 91) (.t 97) (.c (.bool false)), none, []⟩,
  ⟨some 4, .mov (.t 98), none, []⟩] [] false)
  (.ret))))))))))))
def tf2 : TFunc := { np := 2, nt := 99, res := [.tmp 4], own := false, body := tc2 }
noncomputable def S2 (F10 : Cell → Cell → (Option (Cell × Err))) (F11 : Cell → Cell → (Option (Cell × Err))) (F12 : Cell → Cell → (Option (Cell × Err))) (F8 : Int → (Option Cell)) (a0 : Int) (a1 : Int) : Option Bool :=
  jn (σ := Bool) (α := Bool) (br (decide (a0 < (-1000000 : Int)))
  (inlO (some true))
  (br (decide ((1000000 : Int) < a0))
  (inlO (some true))
  (br (decide (a1 < (-1000000 : Int)))
  (inlO (some true))
  (inlO (some (decide ((1000000 : Int) < a1))))))) fun x1 =>
  br x1
  (some true)
  (bno (F8 a0) fun y2 =>
  bno (F8 a1) fun y3 =>
  bno (F11 y2 y3) fun y4 =>
  br (!(Err.isNil y4.2))
  (some false)
  (br (decide (a1 = (0 : Int)))
  (some (decide ((Cell.k y4.1) = (2 : Int))))
  (bno (F8 a1) fun y5 =>
  bno (F10 y4.1 y5) fun y6 =>
  bno (F8 a0) fun y7 =>
  bno (F12 y7 y6.1) fun y8 =>
  jn (σ := Bool) (α := Bool) (br (!(Err.isNil y6.2))
  (inlO (some true))
  (br (!(Err.isNil y8.2))
  (inlO (some true))
  (inlO (some (decide (¬ (Cell.k y8.1) = (1 : Int))))))) fun x9 =>
  br x9
  (some false)
  (jn (σ := Int) (α := Bool) (br (decide (a1 < (0 : Int)))
  (inlO (some (wi (0 - a1))))
  (inlO (some a1))) fun x10 =>
  jn (σ := Bool) (α := Bool) (br (decide ((wi (0 - x10)) < (Cell.n y8.1)))
  (br (decide ((Cell.n y8.1) < x10))
  (br (decide ((0 : Int) ≤ a0))
  (br (decide (a0 ≤ (0 : Int)))
  (inlO (some true))
  (inlO (some (decide ((0 : Int) ≤ (Cell.n y8.1))))))
  (br (decide ((Cell.n y8.1) ≤ (0 : Int)))
  (br (decide (a0 ≤ (0 : Int)))
  (inlO (some true))
  (inlO (some (decide ((0 : Int) ≤ (Cell.n y8.1))))))
  (inlO (some false))))
  (inlO (some false)))
  (inlO (some false))) fun x11 =>
  some x11))))
theorem s2 (F10 : Cell → Cell → (Option (Cell × Err))) (F11 : Cell → Cell → (Option (Cell × Err))) (F12 : Cell → Cell → (Option (Cell × Err))) (F8 : Int → (Option Cell)) (a0 : Int) (a1 : Int) : tf2.run [⟨10, [(.st .cell), (.st .cell)], (.tp [(.st .cell), .err]), fun x => F10 x.1 x.2, false⟩,
  ⟨11, [(.st .cell), (.st .cell)], (.tp [(.st .cell), .err]), fun x => F11 x.1 x.2, false⟩,
  ⟨12, [(.st .cell), (.st .cell)], (.tp [(.st .cell), .err]), fun x => F12 x.1 x.2, false⟩,
  ⟨8, [.int], (.st .cell), fun x => F8 x, false⟩] [.int, .int] .bool (a0, a1) = S2 F10 F11 F12 F8 a0 a1 := by kernel_rfl
noncomputable def P2 (a0 : Int) (a1 : Int) : Option Bool := S2 P10 P11 P12 P8 a0 a1
noncomputable def k2 : CSpec := ⟨2, [.int, .int], .bool, fun x => P2 x.1 x.2, false⟩
theorem r2 {S : Seat} (h : Ok1 S 2 tf2) (h10 : Rt S k10) (h11 : Rt S k11) (h12 : Rt S k12) (h8 : Rt S k8) : Rt S k2 := fun x y hy =>
  Ok1.sound h (C := [k10, k11, k12, k8]) (CSound.cons h10 (CSound.cons h11 (CSound.cons h12 (CSound.cons h8 CSound.nil)))) rfl rfl rfl ((s2 P10 P11 P12 P8 x.1 x.2).trans hy)

end Ab
