/-
  Functions of the program as typed code, what they come to, and their contracts: written by program (mk.py).
-/
import Derived.Test.YthjpciiacibnhaaB2
import Derived.KernelRfl
import Derived.Test.YthjpciiacibnhaaMAl
import Derived.Test.YthjpciiacibnhaaMC
import Derived.Test.YthjpciiacibnhaaMF
import Derived.Test.YthjpciiacibnhaaMRo
namespace Ab
open Go
set_option linter.unusedVariables false
set_option maxRecDepth 100000

/- tallyhall/tallylaw4.RollCorner -/
def tc109 : TCode :=
  .seq (.region [
  ⟨some 4, .mov (.c (.bool false)), none, []⟩] [] false)
  (.seq (.region [
  ⟨some 25, .call false [] 8 [(.c (.int .i64 5))], none, []⟩,
  ⟨some 5, .alloc [.int .i64 0, .int .i64 0], none, []⟩,
  ⟨none, .store 2 (.t 5) (.t 25), none, []⟩] [] false)
  (.seq (.seq (.region [
  ⟨some 26, .fa 1 (.t 5), none, []⟩,
  ⟨some 27, .load none (.t 26), none, []⟩,
  ⟨some 28, .bin .int .neq (.t 27) (.c (.int .i64 5)), none, []⟩] [] false)
  (.cond (.t 28)
    (.seq (.region [
  ⟨some 4, .mov (.c (.bool false)), none, []⟩] [] false)
    (.ret))
    (.skip)))
  (.seq (.seq (.regionJ ⟨[.slot 34 .bool], [29, 30, 31, 32, 33], [], []⟩ [
  ⟨some 29, .mov (.t 0), none, []⟩,
  ⟨some 30, .bin .int .lss (.t 29) (.c (.int .i64 1)), none, []⟩,
  ⟨some 31, .mov (.t 30), none, []⟩,
  ⟨some 32, .mov (.t 0), (some (31, false)), []⟩,
  ⟨some 33, .bin .int .gtr (.t 32) (.c (.int .i64 8)), (some (31, false)), []⟩,
  ⟨some 34, .pick (.t 31) (.c (.bool true)) (.t 33), none, []⟩] [] false)
  (.cond (.t 34)
    (.seq (.region [
  ⟨some 4, .mov (.c (.bool true)), none, []⟩] [] false)
    (.ret))
    (.skip)))
  (.seq (.region [
  ⟨some 35, .mov (.t 0), none, []⟩,
  ⟨some 36, .call true [] 22 [(.t 35)], none, []⟩,
  ⟨some 6, .alloc [.slice none 0 0], none, []⟩,
  ⟨none, .store 1 (.t 6) (.t 36), none, []⟩] [] false)
  (.seq (.region [
  ⟨some 7, .mov (.c (.slice none 0 0)), none, []⟩] [] false)
  (.seq (.region [
  ⟨some 8, .mov (.c (.int .i64 0)), none, []⟩] [] false)
  (.seq (.seq (.region [
  ⟨some 9, .mov (.c (.int .i64 0)), none, []⟩] [] false)
  (.loop ⟨[.row 7 82 .edit, .slot 8 .int, .slot 9 .int], [37, 38, 39, 40, 41, 42, 43, 44, 45, 46, 47, 48, 49, 50, 51, 52, 53, 54, 55, 56, 57, 58, 59, 60, 61, 62, 63, 64, 65, 66, 67, 68, 69, 70, 71, 72, 73, 74, 75, 76, 77, 78, 79, 80, 81, 82, 83, 84, 85, 86, 87, 88], [81], []⟩ 0 (.seq (.seq (.regionJ ⟨[.slot 51 .bool], [37, 38, 39, 40, 41, 42, 43, 44, 45, 46, 47, 48, 49, 50], [], []⟩ [
  ⟨some 37, .mov (.t 9), none, []⟩,
  ⟨some 38, .mov (.t 1), none, []⟩,
  ⟨some 39, .len false (.t 38), none, []⟩,
  ⟨some 40, .bin .int .lss (.t 37) (.t 39), none, []⟩,
  ⟨some 41, .mov (.t 40), none, []⟩,
  ⟨some 42, .mov (.t 9), (some (41, true)), []⟩,
  ⟨some 43, .mov (.t 0), (some (41, true)), []⟩,
  ⟨some 44, .mov (.t 0), (some (41, true)), []⟩,
  ⟨some 45, .bin .int .mul (.t 43) (.t 44), (some (41, true)), []⟩,
  ⟨some 46, .bin .int .lss (.t 42) (.t 45), (some (41, true)), []⟩,
  ⟨some 47, .pick (.t 41) (.t 46) (.c (.bool false)), none, []⟩,
  ⟨some 48, .mov (.t 47), none, []⟩,
  ⟨some 49, .mov (.t 9), (some (48, true)), []⟩,
  ⟨some 50, .bin .int .lss (.t 49) (.c (.int .i64 60)), (some (48, true)), []⟩,
  ⟨some 51, .pick (.t 48) (.t 50) (.c (.bool false)), none, []⟩] [] false)
    (.cond (.t 51)
      (.skip)
      (.exit 0)))
    (.seq (.block 1 (.seq (.seq (.regionJ ⟨[.slot 65 .bool], [54, 55, 56, 57, 58, 59, 60, 61, 62, 63, 64], [], []⟩ [
  ⟨some 54, .mov (.t 1), none, []⟩,
  ⟨some 55, .mov (.t 9), none, []⟩,
  ⟨some 56, .ia 1 (.t 54) (.t 55), none, []⟩,
  ⟨some 57, .load none (.t 56), none, []⟩,
  ⟨some 58, .bin .int .lss (.t 57) (.c (.int .i64 (-1000000))), none, []⟩,
  ⟨some 59, .mov (.t 58), none, []⟩,
  ⟨some 60, .mov (.t 1), (some (59, false)), []⟩,
  ⟨some 61, .mov (.t 9), (some (59, false)), []⟩,
  ⟨some 62, .ia 1 (.t 60) (.t 61), (some (59, false)), []⟩,
  ⟨some 63, .load none (.t 62), (some (59, false)), []⟩,
  ⟨some 64, .bin .int .gtr (.t 63) (.c (.int .i64 1000000)), (some (59, false)), []⟩,
  ⟨some 65, .pick (.t 59) (.c (.bool true)) (.t 64), none, []⟩] [] false)
      (.cond (.t 65)
        (.seq (.region [
  ⟨some 4, .mov (.c (.bool true)), none, []⟩] [] false)
        (.ret))
        (.skip)))
      (.seq (.region [
  ⟨some 66, .mov (.t 7), none, []⟩,
  ⟨some 67, .mov (.t 9), none, []⟩,
  ⟨some 68, .mov (.t 0), none, []⟩,
  ⟨some 69, .bin .int .quo (.t 67) (.t 68), none, [1, 2]⟩,
  ⟨some 70, .bin .int .add (.c (.int .i64 1)) (.t 69), none, [3]⟩,
  ⟨some 71, .mov (.t 9), none, []⟩,
  ⟨some 72, .mov (.t 0), none, []⟩,
  ⟨some 73, .bin .int .rem (.t 71) (.t 72), none, [5, 6]⟩,
  ⟨some 74, .bin .int .add (.c (.int .i64 1)) (.t 73), none, [7]⟩,
  ⟨some 75, .lit 1 [.int .i64 0] 2 [(0, (.t 70)), (1, (.t 74))], none, [4, 8]⟩,
  ⟨some 76, .mov (.t 1), none, []⟩,
  ⟨some 77, .mov (.t 9), none, []⟩,
  ⟨some 78, .ia 1 (.t 76) (.t 77), none, [10, 11]⟩,
  ⟨some 79, .load none (.t 78), none, [12]⟩,
  ⟨some 80, .build [.slice none 0 0, .int .i64 0, .bool false] [(0, 1, (.t 75)), (1, 1, (.t 79))], none, [9, 13]⟩,
  ⟨some 81, .bslice false 3 [.slice none 0 0, .int .i64 0, .bool false] 1 [(0, (.t 80))], none, [14]⟩,
  ⟨some 82, .app 3 (.t 66) (.t 81), none, [0, 15]⟩,
  ⟨some 7, .mov (.t 82), none, [16, 16, 0, 1, 2, 3, 4, 5, 6, 7, 8, 9, 10, 11, 12, 13, 14, 15, 16]⟩] [.int, .int, .int, .int, .int, .int, .int, .int, .int, .int, .int, .int, .int, .int, .int, .edit, .edit] true)
      (.region [
  ⟨some 83, .mov (.t 8), none, []⟩,
  ⟨some 84, .mov (.t 1), none, []⟩,
  ⟨some 85, .mov (.t 9), none, []⟩,
  ⟨some 86, .ia 1 (.t 84) (.t 85), none, []⟩,
  ⟨some 87, .load none (.t 86), none, []⟩,
  ⟨some 88, .bin .int .add (.t 83) (.t 87), none, []⟩,
  ⟨some 8, .mov (.t 88), none, []⟩] [] false))))
    (.region [
  ⟨some 52, .mov (.t 9), none, []⟩,
  ⟨some 53, .bin .int .add (.t 52) (.c (.int .i64 1)), none, []⟩,
  ⟨some 9, .mov (.t 53), none, []⟩] [] false)))))
  (.seq (.region [
  ⟨some 90, .load (some 1) (.t 6), none, []⟩,
  ⟨some 91, .mov (.t 7), none, []⟩,
  ⟨some 92, .call true [] 112 [(.t 90), (.c (.slice none 0 0)), (.t 91)], none, []⟩,
  ⟨some 89, .mov (.t 92), none, []⟩,
  ⟨some 93, .ext (.t 89) 0, none, []⟩,
  ⟨some 94, .ext (.t 89) 1, none, []⟩,
  ⟨some 95, .ext (.t 89) 2, none, []⟩,
  ⟨some 10, .mov (.t 93), none, []⟩,
  ⟨some 11, .mov (.t 94), none, []⟩,
  ⟨some 12, .mov (.t 95), none, []⟩] [] false)
  (.seq (.seq (.region [
  ⟨some 96, .mov (.t 12), none, []⟩,
  ⟨some 97, .eqn false true (.t 96), none, []⟩] [] false)
  (.cond (.t 97)
    (.seq (.region [
  ⟨some 4, .mov (.c (.bool false)), none, []⟩] [] false)
    (.ret))
    (.skip)))
  (.seq (.region [
  ⟨some 99, .load (some 1) (.t 6), none, []⟩,
  ⟨some 100, .mov (.t 10), none, []⟩,
  ⟨some 101, .bslice false 1 [.int .i64 0] 2 [(0, (.c (.int .i64 0))), (1, (.c (.int .i64 0)))], none, []⟩,
  ⟨some 102, .call false [] 110 [(.t 99), (.t 100), (.t 101)], none, []⟩,
  ⟨some 98, .mov (.t 102), none, []⟩,
  ⟨some 103, .ext (.t 98) 0, none, []⟩,
  ⟨some 104, .ext (.t 98) 1, none, []⟩,
  ⟨some 13, .alloc [.int .i64 0, .int .i64 0], none, []⟩,
  ⟨none, .store 2 (.t 13) (.t 103), none, []⟩,
  ⟨some 12, .mov (.t 104), none, []⟩] [] false)
  (.seq (.seq (.region [
  ⟨some 105, .mov (.t 7), none, []⟩,
  ⟨some 106, .len false (.t 105), none, []⟩,
  ⟨some 107, .bin .int .eql (.t 106) (.c (.int .i64 0)), none, []⟩] [] false)
  (.cond (.t 107)
    (.seq (.regionJ ⟨[.slot 4 .bool], [108, 109, 110, 111, 112, 113, 114], [], []⟩ [
  ⟨some 108, .mov (.t 12), none, []⟩,
  ⟨some 109, .eqn false false (.t 108), none, []⟩,
  ⟨some 110, .mov (.t 109), none, []⟩,
  ⟨some 111, .fa 0 (.t 13), (some (110, true)), []⟩,
  ⟨some 112, .load none (.t 111), (some (110, true)), []⟩,
  ⟨some 113, .bin .int .eql (.t 112) (.c (.int .i64 0)), (some (110, true)), []⟩,
  ⟨some 114, .pick (.t 110) (.t 113) (.c (.bool false)), none, []⟩,
  ⟨some 4, .mov (.t 114), none, []⟩] [] false)
    (.ret))
    (.skip)))
  (.seq (.region [
  ⟨some 115, .build [.int .i64 0, .int .i64 0] [], none, []⟩,
  ⟨some 14, .alloc [.int .i64 0, .int .i64 0], none, []⟩,
  ⟨none, .store 2 (.t 14) (.t 115), none, []⟩] [] false)
  (.seq (.region [
  ⟨some 116, .build [.int .i64 0, .int .i64 0] [], none, []⟩,
  ⟨some 15, .alloc [.int .i64 0, .int .i64 0], none, []⟩,
  ⟨none, .store 2 (.t 15) (.t 116), none, []⟩] [] false)
  (.seq (.seq (.region [
  ⟨some 16, .mov (.c (.int .i64 1)), none, []⟩] [] false)
  (.loop ⟨[.slot 16 .int, .var 14 [.sh .int, .sh .int], .var 15 [.sh .int, .sh .int]], [17, 18, 19, 20, 21, 22, 23, 24, 117, 118, 119, 120, 121, 122, 123, 124, 125, 126, 127, 128, 129, 130, 131, 132, 133, 134, 135, 136, 137, 138, 139, 140, 141, 142, 143, 144, 145, 146, 147, 148, 149, 150, 151, 152, 153, 154, 155, 156, 157, 158, 159, 160, 161, 162, 163, 164, 165], [17, 19, 21, 23, 126, 134], []⟩ 2 (.seq (.seq (.region [
  ⟨some 117, .mov (.t 16), none, []⟩,
  ⟨some 118, .mov (.t 0), none, []⟩,
  ⟨some 119, .bin .int .leq (.t 117) (.t 118), none, []⟩] [] false)
    (.cond (.t 119)
      (.skip)
      (.exit 2)))
    (.seq (.block 3 (.seq (.region [
  ⟨some 123, .load (some 1) (.t 6), none, []⟩,
  ⟨some 124, .mov (.t 10), none, []⟩,
  ⟨some 125, .mov (.t 16), none, []⟩,
  ⟨some 126, .bslice false 1 [.int .i64 0] 2 [(0, (.t 125)), (1, (.c (.int .i64 0)))], none, []⟩,
  ⟨some 127, .call false [] 110 [(.t 123), (.t 124), (.t 126)], none, []⟩,
  ⟨some 122, .mov (.t 127), none, []⟩,
  ⟨some 128, .ext (.t 122) 0, none, []⟩,
  ⟨some 129, .ext (.t 122) 1, none, []⟩,
  ⟨some 17, .alloc [.int .i64 0, .int .i64 0], none, []⟩,
  ⟨none, .store 2 (.t 17) (.t 128), none, []⟩,
  ⟨some 18, .mov (.t 129), none, []⟩] [] false)
      (.seq (.region [
  ⟨some 131, .load (some 1) (.t 6), none, []⟩,
  ⟨some 132, .mov (.t 10), none, []⟩,
  ⟨some 133, .mov (.t 16), none, []⟩,
  ⟨some 134, .bslice false 1 [.int .i64 0] 2 [(0, (.c (.int .i64 0))), (1, (.t 133))], none, []⟩,
  ⟨some 135, .call false [] 110 [(.t 131), (.t 132), (.t 134)], none, []⟩,
  ⟨some 130, .mov (.t 135), none, []⟩,
  ⟨some 136, .ext (.t 130) 0, none, []⟩,
  ⟨some 137, .ext (.t 130) 1, none, []⟩,
  ⟨some 19, .alloc [.int .i64 0, .int .i64 0], none, []⟩,
  ⟨none, .store 2 (.t 19) (.t 136), none, []⟩,
  ⟨some 20, .mov (.t 137), none, []⟩] [] false)
      (.seq (.region [
  ⟨some 139, .load (some 2) (.t 14), none, []⟩,
  ⟨some 140, .load (some 2) (.t 17), none, []⟩,
  ⟨some 141, .call false [] 9 [(.t 139), (.t 140)], none, []⟩,
  ⟨some 138, .mov (.t 141), none, []⟩,
  ⟨some 142, .ext (.t 138) 0, none, []⟩,
  ⟨some 143, .ext (.t 138) 1, none, []⟩,
  ⟨some 21, .alloc [.int .i64 0, .int .i64 0], none, []⟩,
  ⟨none, .store 2 (.t 21) (.t 142), none, []⟩,
  ⟨some 22, .mov (.t 143), none, []⟩] [] false)
      (.seq (.region [
  ⟨some 145, .load (some 2) (.t 15), none, []⟩,
  ⟨some 146, .load (some 2) (.t 19), none, []⟩,
  ⟨some 147, .call false [] 9 [(.t 145), (.t 146)], none, []⟩,
  ⟨some 144, .mov (.t 147), none, []⟩,
  ⟨some 148, .ext (.t 144) 0, none, []⟩,
  ⟨some 149, .ext (.t 144) 1, none, []⟩,
  ⟨some 23, .alloc [.int .i64 0, .int .i64 0], none, []⟩,
  ⟨none, .store 2 (.t 23) (.t 148), none, []⟩,
  ⟨some 24, .mov (.t 149), none, []⟩] [] false)
      (.seq (.seq (.regionJ ⟨[.slot 163 .bool], [150, 151, 152, 153, 154, 155, 156, 157, 158, 159, 160, 161, 162], [], []⟩ [
  ⟨some 150, .mov (.t 18), none, []⟩,
  ⟨some 151, .eqn false true (.t 150), none, []⟩,
  ⟨some 152, .mov (.t 151), none, []⟩,
  ⟨some 153, .mov (.t 20), (some (152, false)), []⟩,
  ⟨some 154, .eqn false true (.t 153), (some (152, false)), []⟩,
  ⟨some 155, .pick (.t 152) (.c (.bool true)) (.t 154), none, []⟩,
  ⟨some 156, .mov (.t 155), none, []⟩,
  ⟨some 157, .mov (.t 22), (some (156, false)), []⟩,
  ⟨some 158, .eqn false true (.t 157), (some (156, false)), []⟩,
  ⟨some 159, .pick (.t 156) (.c (.bool true)) (.t 158), none, []⟩,
  ⟨some 160, .mov (.t 159), none, []⟩,
  ⟨some 161, .mov (.t 24), (some (160, false)), []⟩,
  ⟨some 162, .eqn false true (.t 161), (some (160, false)), []⟩,
  ⟨some 163, .pick (.t 160) (.c (.bool true)) (.t 162), none, []⟩] [] false)
      (.cond (.t 163)
        (.seq (.region [
  ⟨some 4, .mov (.c (.bool false)), none, []⟩] [] false)
        (.ret))
        (.skip)))
      (.seq (.region [
  ⟨some 164, .load (some 2) (.t 21), none, []⟩,
  ⟨none, .store 2 (.t 14) (.t 164), none, []⟩] [] false)
      (.region [
  ⟨some 165, .load (some 2) (.t 23), none, []⟩,
  ⟨none, .store 2 (.t 15) (.t 165), none, []⟩] [] false))))))))
    (.region [
  ⟨some 120, .mov (.t 16), none, []⟩,
  ⟨some 121, .bin .int .add (.t 120) (.c (.int .i64 1)), none, []⟩,
  ⟨some 16, .mov (.t 121), none, []⟩] [] false)))))
  (.seq (.regionJ ⟨[.slot 4 .bool], [166, 167, 168, 169, 170, 171, 172, 173, 174, 175, 176, 177, 178, 179, 180, 181, 182, 183], [], []⟩ [
  ⟨some 166, .mov (.t 12), none, []⟩,
  ⟨some 167, .eqn false false (.t 166), none, [0]⟩,
  ⟨some 168, .mov (.t 167), none, [1]⟩,
  ⟨some 169, .load (some 2) (.t 13), (some (168, true)), [2]⟩,
  ⟨some 170, .mov (.t 8), (some (168, true)), [2]⟩,
  ⟨some 171, .call false [] 8 [(.t 170)], (some (168, true)), [4, 2, 2]⟩,
  ⟨some 172, .eqa false [(0, .int), (1, .int)] (.t 169) (.t 171), (some (168, true)), [3, 5, 2]⟩,
  ⟨some 173, .pick (.t 168) (.t 172) (.c (.bool false)), none, [2, 6]⟩,
  ⟨some 174, .mov (.t 173), none, [7, 5]⟩,
  ⟨some 175, .load (some 2) (.t 14), (some (174, true)), [8]⟩,
  ⟨some 176, .load (some 2) (.t 13), (some (174, true)), [8]⟩,
  ⟨some 177, .eqa false [(0, .int), (1, .int)] (.t 175) (.t 176), (some (174, true)), [9, 10, 8]⟩,
  ⟨some 178, .pick (.t 174) (.t 177) (.c (.bool false)), none, [8, 11]⟩,
  ⟨some 179, .mov (.t 178), none, [12, 8]⟩,
  ⟨some 180, .load (some 2) (.t 15), (some (179, true)), [13]⟩,
  ⟨some 181, .load (some 2) (.t 13), (some (179, true)), [13]⟩,
  ⟨some 182, .eqa false [(0, .int), (1, .int)] (.t 180) (.t 181), (some (179, true)), [14, 15, 13]⟩,
  ⟨some 183, .pick (.t 179) (.t 182) (.c (.bool false)), none, [13, 16]⟩,
  ⟨some 4, .mov (.t 183), none, [17, 13, 0, 1, 2, 3, 4, 5, 6, 7, 8, 9, 10, 11, 12, 13, 14, 15, 16, 17]⟩] [] true)
  (.ret))))))))))))))))
def tf109 : TFunc := { np := 2, nt := 184, res := [.tmp 4], own := false, body := tc109 }
noncomputable def S109_L1 (a0 : Int) (a1 : (List Int)) (x4 : ((List Edit) × Int × Int)) : Option (LR ((List Edit) × Int × Int) Bool) :=
  jn (σ := Bool) (α := (LR ((List Edit) × Int × Int) Bool)) (br (decide (x4.2.2 < ((List.length a1 : Nat) : Int)))
  (br (decide (x4.2.2 < (wi (a0 * a0))))
  (inlO (some (decide (x4.2.2 < (60 : Int)))))
  (inlO (some false)))
  (inlO (some false))) fun x5 =>
  br x5
  (jn (σ := Bool) (α := (LR ((List Edit) × Int × Int) Bool)) (bno (lookI a1 x4.2.2) fun y6 =>
  br (decide (y6 < (-1000000 : Int)))
  (inlO (some true))
  (bno (lookI a1 x4.2.2) fun y7 =>
  inlO (some (decide ((1000000 : Int) < y7))))) fun x8 =>
  br x8
  (finO (some true))
  (ck (decide (¬ a0 = 0)) <|
  ck (decide (¬ a0 = 0)) <|
  bno (lookI a1 x4.2.2) fun y9 =>
  ck (decide (List.length x4.1 + List.length ([Edit.mk ([wi ((1 : Int) + (wi (Int.tdiv x4.2.2 a0))), wi ((1 : Int) + (Int.tmod x4.2.2 a0))] : List Int) y9 false] : List Edit) ≤ roomA)) <|
  bno (lookI a1 x4.2.2) fun y10 =>
  nxO (some (x4.1 ++ ([Edit.mk ([wi ((1 : Int) + (wi (Int.tdiv x4.2.2 a0))), wi ((1 : Int) + (Int.tmod x4.2.2 a0))] : List Int) y9 false] : List Edit), wi (x4.2.1 + y10), wi (x4.2.2 + (1 : Int))))))
  (dnO (some (x4.1, x4.2.1, x4.2.2)))
noncomputable def S109_L2 (F110 : (List Dim) → (List Entry) → (List Int) → (Option (Cell × Err))) (F9 : Cell → Cell → (Option (Cell × Err))) (a0 : Int) (y3 : (List Dim)) (y12 : ((List Entry) × Int × Err)) (x15 : (Int × (Int × Int) × (Int × Int))) : Option (LR (Int × (Int × Int) × (Int × Int)) Bool) :=
  br (decide (x15.1 ≤ a0))
  (bno (F110 y3 y12.1 ([x15.1, (0 : Int)] : List Int)) fun y16 =>
  bno (F110 y3 y12.1 ([(0 : Int), x15.1] : List Int)) fun y17 =>
  bno (F9 (Cell.mk x15.2.1.1 x15.2.1.2) y16.1) fun y18 =>
  bno (F9 (Cell.mk x15.2.2.1 x15.2.2.2) y17.1) fun y19 =>
  jn (σ := Bool) (α := (LR (Int × (Int × Int) × (Int × Int)) Bool)) (br (!(Err.isNil y16.2))
  (inlO (some true))
  (br (!(Err.isNil y17.2))
  (inlO (some true))
  (br (!(Err.isNil y18.2))
  (inlO (some true))
  (inlO (some (!(Err.isNil y19.2))))))) fun x20 =>
  br x20
  (finO (some false))
  (nxO (some (wi (x15.1 + (1 : Int)), (Cell.k y18.1, Cell.n y18.1), (Cell.k y19.1, Cell.n y19.1)))))
  (dnO (some (x15.1, (x15.2.1.1, x15.2.1.2), (x15.2.2.1, x15.2.2.2))))
noncomputable def S109 (F110 : (List Dim) → (List Entry) → (List Int) → (Option (Cell × Err))) (F112 : (List Dim) → (List Entry) → (List Edit) → (Option ((List Entry) × Int × Err))) (F22 : Int → (Option (List Dim))) (F8 : Int → (Option Cell)) (F9 : Cell → Cell → (Option (Cell × Err))) (a0 : Int) (a1 : (List Int)) : Option Bool :=
  bno (F8 (5 : Int)) fun y1 =>
  br (decide (¬ (Cell.n y1) = (5 : Int)))
  (some false)
  (jn (σ := Bool) (α := Bool) (br (decide (a0 < (1 : Int)))
  (inlO (some true))
  (inlO (some (decide ((8 : Int) < a0))))) fun x2 =>
  br x2
  (some true)
  (bno (F22 a0) fun y3 =>
  lp (S109_L1 a0 a1) (([] : List Edit), (0 : Int), (0 : Int)) fun x11 =>
  bno (F112 y3 ([] : List Entry) x11.1) fun y12 =>
  br (!(Err.isNil y12.2.2))
  (some false)
  (bno (F110 y3 y12.1 ([(0 : Int), (0 : Int)] : List Int)) fun y13 =>
  br (decide (((List.length x11.1 : Nat) : Int) = (0 : Int)))
  (jn (σ := Bool) (α := Bool) (br (Err.isNil y13.2)
  (inlO (some (decide ((Cell.k y13.1) = (0 : Int)))))
  (inlO (some false))) fun x14 =>
  some x14)
  (lp (S109_L2 F110 F9 a0 y3 y12) ((1 : Int), ((0 : Int), (0 : Int)), ((0 : Int), (0 : Int))) fun x21 =>
  jn (σ := Bool) (α := Bool) (br (Err.isNil y13.2)
  (bno (F8 x11.2.1) fun y22 =>
  br (decide ((Cell.k y13.1) = (Cell.k y22)) && (decide ((Cell.n y13.1) = (Cell.n y22)) && true))
  (br (decide (x21.2.1.1 = (Cell.k y13.1)) && (decide (x21.2.1.2 = (Cell.n y13.1)) && true))
  (inlO (some (decide (x21.2.2.1 = (Cell.k y13.1)) && (decide (x21.2.2.2 = (Cell.n y13.1)) && true))))
  (inlO (some false)))
  (inlO (some false)))
  (inlO (some false))) fun x23 =>
  some x23))))
theorem s109 (F110 : (List Dim) → (List Entry) → (List Int) → (Option (Cell × Err))) (F112 : (List Dim) → (List Entry) → (List Edit) → (Option ((List Entry) × Int × Err))) (F22 : Int → (Option (List Dim))) (F8 : Int → (Option Cell)) (F9 : Cell → Cell → (Option (Cell × Err))) (a0 : Int) (a1 : (List Int)) : tf109.run [⟨110, [(.st .outl), (.sl .entry), (.sl .int)], (.tp [(.st .cell), .err]), fun x => F110 x.1 x.2.1 x.2.2, false, []⟩,
  ⟨112, [(.st .outl), (.sl .entry), (.sl .edit)], (.tp [(.sl .entry), .int, .err]), fun x => F112 x.1 x.2.1 x.2.2, false, []⟩,
  ⟨22, [.int], (.st .outl), fun x => F22 x, false, []⟩,
  ⟨8, [.int], (.st .cell), fun x => F8 x, false, []⟩,
  ⟨9, [(.st .cell), (.st .cell)], (.tp [(.st .cell), .err]), fun x => F9 x.1 x.2, false, []⟩] [.int, (.sl .int)] .bool (a0, a1) = S109 F110 F112 F22 F8 F9 a0 a1 := by kernel_rfl
noncomputable def P109 (a0 : Int) (a1 : (List Int)) : Option Bool := S109 P110 P112 P22 P8 P9 a0 a1
noncomputable def k109 : CSpec := ⟨109, [.int, (.sl .int)], .bool, fun x => P109 x.1 x.2, false, []⟩
theorem r109 {S : Seat} (h : Ok1 S 109 tf109) (h110 : Rt S k110) (h112 : Rt S k112) (h22 : Rt S k22) (h8 : Rt S k8) (h9 : Rt S k9) : Rt S k109 := fun x y hy =>
  Ok1.sound h (C := [k110, k112, k22, k8, k9]) (CSound.cons h110 (CSound.cons h112 (CSound.cons h22 (CSound.cons h8 (CSound.cons h9 CSound.nil))))) rfl rfl rfl ((s109 P110 P112 P22 P8 P9 x.1 x.2).trans hy) rfl

end Ab
