/-
  Functions of the program as typed code, what they come to, and their contracts: written by program (mk.py).
-/
import Derived.Test.YtkedlclobjhkfaaTL
import Derived.KernelRfl
import Derived.Test.YtkedlclobjhkfaaMC
namespace Ab
open Go
set_option linter.unusedVariables false
set_option maxRecDepth 100000

/- tallyhall/tallylaw4.CellCounts -/
def tc1 : TCode :=
  .seq (.region [
  ⟨some 2, .mov (.c (.bool false)), none, []⟩] [] false)
  (.seq (.seq (.regionJ ⟨[.slot 16 .bool], [11, 12, 13, 14, 15], [], []⟩ [
  ⟨some 11, .mov (.t 0), none, []⟩,
  ⟨some 12, .bin .int .lss (.t 11) (.c (.int .i64 0)), none, []⟩,
  ⟨some 13, .mov (.t 12), none, []⟩,
  ⟨some 14, .mov (.t 0), (some (13, false)), []⟩,
  ⟨some 15, .bin .int .gtr (.t 14) (.c (.int .i64 50)), (some (13, false)), []⟩,
  ⟨some 16, .pick (.t 13) (.c (.bool true)) (.t 15), none, []⟩] [] false)
  (.cond (.t 16)
    (.seq (.region [
  ⟨some 2, .mov (.c (.bool true)), none, []⟩] [] false)
    (.ret))
    (.skip)))
  (.seq (.region [
  ⟨some 17, .build [.int .i64 0, .int .i64 0] [], none, []⟩,
  ⟨some 3, .alloc [.int .i64 0, .int .i64 0], none, []⟩,
  ⟨none, .store 2 (.t 3) (.t 17), none, []⟩] [] false)
  (.seq (.region [
  ⟨some 18, .call false [] 8 [(.c (.int .i64 1))], none, []⟩,
  ⟨some 4, .alloc [.int .i64 0, .int .i64 0], none, []⟩,
  ⟨none, .store 2 (.t 4) (.t 18), none, []⟩] [] false)
  (.seq (.region [
  ⟨some 5, .mov (.c (.int .i64 1)), none, []⟩] [] false)
  (.seq (.seq (.region [
  ⟨some 6, .mov (.c (.int .i64 0)), none, []⟩] [] false)
  (.loop ⟨[.slot 5 .int, .slot 6 .int, .var 3 [.sh .int, .sh .int], .var 4 [.sh .int, .sh .int]], [7, 8, 9, 10, 19, 20, 21, 22, 23, 24, 25, 26, 27, 28, 29, 30, 31, 32, 33, 34, 35, 36, 37, 38, 39, 40, 41, 42, 43, 44, 45, 46, 47], [7, 9], []⟩ 0 (.seq (.seq (.region [
  ⟨some 19, .mov (.t 6), none, []⟩,
  ⟨some 20, .mov (.t 0), none, []⟩,
  ⟨some 21, .bin .int .lss (.t 19) (.t 20), none, []⟩] [] false)
    (.cond (.t 21)
      (.skip)
      (.exit 0)))
    (.seq (.block 1 (.seq (.region [
  ⟨some 25, .load (some 2) (.t 3), none, []⟩,
  ⟨some 26, .call false [] 8 [(.c (.int .i64 1))], none, []⟩,
  ⟨some 27, .call false [] 9 [(.t 25), (.t 26)], none, [0, 1, 1]⟩,
  ⟨some 24, .mov (.t 27), none, [2]⟩,
  ⟨some 28, .ext (.t 24) 0, none, [3]⟩,
  ⟨some 29, .ext (.t 24) 1, none, [3]⟩,
  ⟨some 7, .alloc [.int .i64 0, .int .i64 0], none, []⟩,
  ⟨none, .store 2 (.t 7) (.t 28), none, [6, 4, 2, 0, 1, 2, 3, 4, 6]⟩,
  ⟨some 8, .mov (.t 29), none, [5, 7, 0, 1, 2, 3, 4, 5, 6, 7]⟩] [] true)
      (.seq (.region [
  ⟨some 31, .load (some 2) (.t 4), none, []⟩,
  ⟨some 32, .call false [] 8 [(.c (.int .i64 2))], none, []⟩,
  ⟨some 33, .call false [] 10 [(.t 31), (.t 32)], none, [0, 1, 1]⟩,
  ⟨some 30, .mov (.t 33), none, [2]⟩,
  ⟨some 34, .ext (.t 30) 0, none, [3]⟩,
  ⟨some 35, .ext (.t 30) 1, none, [3]⟩,
  ⟨some 9, .alloc [.int .i64 0, .int .i64 0], none, []⟩,
  ⟨none, .store 2 (.t 9) (.t 34), none, [6, 4, 2, 0, 1, 2, 3, 4, 6]⟩,
  ⟨some 10, .mov (.t 35), none, [5, 7, 0, 1, 2, 3, 4, 5, 6, 7]⟩] [] true)
      (.seq (.seq (.regionJ ⟨[.slot 41 .bool], [36, 37, 38, 39, 40], [], []⟩ [
  ⟨some 36, .mov (.t 8), none, []⟩,
  ⟨some 37, .eqn false true (.t 36), none, []⟩,
  ⟨some 38, .mov (.t 37), none, []⟩,
  ⟨some 39, .mov (.t 10), (some (38, false)), []⟩,
  ⟨some 40, .eqn false true (.t 39), (some (38, false)), []⟩,
  ⟨some 41, .pick (.t 38) (.c (.bool true)) (.t 40), none, []⟩] [] false)
      (.cond (.t 41)
        (.seq (.region [
  ⟨some 2, .mov (.c (.bool false)), none, []⟩] [] false)
        (.ret))
        (.skip)))
      (.seq (.region [
  ⟨some 42, .load (some 2) (.t 7), none, []⟩,
  ⟨none, .store 2 (.t 3) (.t 42), none, []⟩] [] false)
      (.seq (.region [
  ⟨some 43, .load (some 2) (.t 9), none, []⟩,
  ⟨none, .store 2 (.t 4) (.t 43), none, []⟩] [] false)
      (.seq (.region [
  ⟨some 44, .mov (.t 5), none, []⟩,
  ⟨some 45, .bin .int .leq (.t 44) (.c (.int .i64 1000000000000)), none, []⟩] [] false)
      (.condJ ⟨[.slot 5 .int], [46, 47], [], []⟩ (.t 45)
        (.region [
  ⟨some 46, .mov (.t 5), none, []⟩,
  ⟨some 47, .bin .int .mul (.c (.int .i64 2)) (.t 46), none, []⟩,
  ⟨some 5, .mov (.t 47), none, []⟩] [] false)
        (.skip)))))))))
    (.region [
  ⟨some 22, .mov (.t 6), none, []⟩,
  ⟨some 23, .bin .int .add (.t 22) (.c (.int .i64 1)), none, []⟩,
  ⟨some 6, .mov (.t 23), none, []⟩] [] false)))))
  (.seq (.seq (.region [
  ⟨some 48, .mov (.t 0), none, []⟩,
  ⟨some 49, .bin .int .eql (.t 48) (.c (.int .i64 0)), none, []⟩] [] false)
  (.cond (.t 49)
    (.seq (.regionJ ⟨[.slot 2 .bool], [50, 51, 52, 53, 54, 55, 56, 57], [], []⟩ [
  ⟨some 50, .fa 0 (.t 3), none, []⟩,
  ⟨some 51, .load none (.t 50), none, [0]⟩,
  ⟨some 52, .bin .int .eql (.t 51) (.c (.int .i64 0)), none, [1]⟩,
  ⟨some 53, .mov (.t 52), none, [2]⟩,
  ⟨some 54, .load (some 2) (.t 4), (some (53, true)), [3]⟩,
  ⟨some 55, .call false [] 8 [(.c (.int .i64 1))], (some (53, true)), [3, 3]⟩,
  ⟨some 56, .eqa false [(0, .int), (1, .int)] (.t 54) (.t 55), (some (53, true)), [4, 5, 3]⟩,
  ⟨some 57, .pick (.t 53) (.t 56) (.c (.bool false)), none, [3, 6]⟩,
  ⟨some 2, .mov (.t 57), none, [7, 5, 0, 1, 2, 3, 4, 5, 6, 7]⟩] [] true)
    (.ret))
    (.skip)))
  (.seq (.regionJ ⟨[.slot 2 .bool], [58, 59, 60, 61, 62, 63, 64, 65, 66, 67, 68, 69, 70, 71, 72, 73, 74, 75, 76, 77, 78, 79, 80], [], []⟩ [
  ⟨some 58, .load (some 2) (.t 3), none, []⟩,
  ⟨some 59, .mov (.t 0), none, []⟩,
  ⟨some 60, .call false [] 8 [(.t 59)], none, [1]⟩,
  ⟨some 61, .eqa false [(0, .int), (1, .int)] (.t 58) (.t 60), none, [0, 2]⟩,
  ⟨some 62, .mov (.t 61), none, [3, 2]⟩,
  ⟨some 63, .mov (.t 5), (some (62, true)), [4]⟩,
  ⟨some 64, .bin .int .leq (.t 63) (.c (.int .i64 1000000000000)), (some (62, true)), [5, 4]⟩,
  ⟨some 65, .fa 0 (.t 4), (some (62, true)), [4]⟩,
  ⟨some 66, .load none (.t 65), (some (62, true)), [7, 4]⟩,
  ⟨some 67, .bin .int .eql (.t 66) (.c (.int .i64 1)), (some (62, true)), [8, 4]⟩,
  ⟨some 68, .bin .bool .eql (.t 64) (.t 67), (some (62, true)), [6, 9, 4]⟩,
  ⟨some 69, .pick (.t 62) (.t 68) (.c (.bool false)), none, [4, 10]⟩,
  ⟨some 70, .mov (.t 69), none, [11, 4]⟩,
  ⟨some 71, .fa 0 (.t 4), (some (70, true)), [12]⟩,
  ⟨some 72, .load none (.t 71), (some (70, true)), [13, 12]⟩,
  ⟨some 73, .bin .int .neq (.t 72) (.c (.int .i64 1)), (some (70, true)), [14, 12]⟩,
  ⟨some 74, .mov (.t 73), (some (70, true)), [15, 12, 12]⟩,
  ⟨some 75, .fa 1 (.t 4), (some (74, false)), [16]⟩,
  ⟨some 76, .load none (.t 75), (some (74, false)), [17, 16]⟩,
  ⟨some 77, .mov (.t 5), (some (74, false)), [16]⟩,
  ⟨some 78, .bin .int .eql (.t 76) (.t 77), (some (74, false)), [18, 19, 16]⟩,
  ⟨some 79, .pick (.t 74) (.c (.bool true)) (.t 78), (some (70, true)), [16, 20, 12]⟩,
  ⟨some 80, .pick (.t 70) (.t 79) (.c (.bool false)), none, [12, 21]⟩,
  ⟨some 2, .mov (.t 80), none, [22, 16, 0, 1, 2, 3, 4, 5, 6, 7, 8, 9, 10, 11, 12, 13, 14, 15, 16, 17, 18, 19, 20, 21, 22]⟩] [] true)
  (.ret))))))))
def tf1 : TFunc := { np := 1, nt := 81, res := [.tmp 2], own := false, body := tc1 }
noncomputable def S1_L1 (F10 : Cell → Cell → (Option (Cell × Err))) (F8 : Int → (Option Cell)) (F9 : Cell → Cell → (Option (Cell × Err))) (a0 : Int) (x3 : (Int × Int × (Int × Int) × (Int × Int))) : Option (LR (Int × Int × (Int × Int) × (Int × Int)) Bool) :=
  br (decide (x3.2.1 < a0))
  (bno (F8 (1 : Int)) fun y4 =>
  bno (F9 (Cell.mk x3.2.2.1.1 x3.2.2.1.2) y4) fun y5 =>
  bno (F8 (2 : Int)) fun y6 =>
  bno (F10 (Cell.mk x3.2.2.2.1 x3.2.2.2.2) y6) fun y7 =>
  jn (σ := Bool) (α := (LR (Int × Int × (Int × Int) × (Int × Int)) Bool)) (br (!(Err.isNil y5.2))
  (inlO (some true))
  (inlO (some (!(Err.isNil y7.2))))) fun x8 =>
  br x8
  (finO (some false))
  (jn (σ := Int) (α := (LR (Int × Int × (Int × Int) × (Int × Int)) Bool)) (br (decide (x3.1 ≤ (1000000000000 : Int)))
  (inlO (some (wi ((2 : Int) * x3.1))))
  (inlO (some x3.1))) fun x9 =>
  nxO (some (x9, wi (x3.2.1 + (1 : Int)), (Cell.k y5.1, Cell.n y5.1), (Cell.k y7.1, Cell.n y7.1)))))
  (dnO (some (x3.1, x3.2.1, (x3.2.2.1.1, x3.2.2.1.2), (x3.2.2.2.1, x3.2.2.2.2))))
noncomputable def S1 (F10 : Cell → Cell → (Option (Cell × Err))) (F8 : Int → (Option Cell)) (F9 : Cell → Cell → (Option (Cell × Err))) (a0 : Int) : Option Bool :=
  jn (σ := Bool) (α := Bool) (br (decide (a0 < (0 : Int)))
  (inlO (some true))
  (inlO (some (decide ((50 : Int) < a0))))) fun x1 =>
  br x1
  (some true)
  (bno (F8 (1 : Int)) fun y2 =>
  lp (S1_L1 F10 F8 F9 a0) ((1 : Int), (0 : Int), ((0 : Int), (0 : Int)), (Cell.k y2, Cell.n y2)) fun x10 =>
  br (decide (a0 = (0 : Int)))
  (jn (σ := Bool) (α := Bool) (br (decide (x10.2.2.1.1 = (0 : Int)))
  (bno (F8 (1 : Int)) fun y11 =>
  inlO (some (decide (x10.2.2.2.1 = (Cell.k y11)) && (decide (x10.2.2.2.2 = (Cell.n y11)) && true))))
  (inlO (some false))) fun x12 =>
  some x12)
  (jn (σ := Bool) (α := Bool) (bno (F8 a0) fun y13 =>
  br (decide (x10.2.2.1.1 = (Cell.k y13)) && (decide (x10.2.2.1.2 = (Cell.n y13)) && true))
  (br (decide ((decide (x10.1 ≤ (1000000000000 : Int))) = (decide (x10.2.2.2.1 = (1 : Int)))))
  (br (decide (¬ x10.2.2.2.1 = (1 : Int)))
  (inlO (some true))
  (inlO (some (decide (x10.2.2.2.2 = x10.1)))))
  (inlO (some false)))
  (inlO (some false))) fun x14 =>
  some x14))
theorem s1 (F10 : Cell → Cell → (Option (Cell × Err))) (F8 : Int → (Option Cell)) (F9 : Cell → Cell → (Option (Cell × Err))) (a0 : Int) : tf1.run [⟨10, [(.st .cell), (.st .cell)], (.tp [(.st .cell), .err]), fun x => F10 x.1 x.2, false⟩,
  ⟨8, [.int], (.st .cell), fun x => F8 x, false⟩,
  ⟨9, [(.st .cell), (.st .cell)], (.tp [(.st .cell), .err]), fun x => F9 x.1 x.2, false⟩] [.int] .bool a0 = S1 F10 F8 F9 a0 := by kernel_rfl
noncomputable def P1 (a0 : Int) : Option Bool := S1 P10 P8 P9 a0
noncomputable def k1 : CSpec := ⟨1, [.int], .bool, fun x => P1 x, false⟩
theorem r1 {S : Seat} (h : Ok1 S 1 tf1) (h10 : Rt S k10) (h8 : Rt S k8) (h9 : Rt S k9) : Rt S k1 := fun x y hy =>
  Ok1.sound h (C := [k10, k8, k9]) (CSound.cons h10 (CSound.cons h8 (CSound.cons h9 CSound.nil))) rfl rfl rfl ((s1 P10 P8 P9 x).trans hy)

end Ab
