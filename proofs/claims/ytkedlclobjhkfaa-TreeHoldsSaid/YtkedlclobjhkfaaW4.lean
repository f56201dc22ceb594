/-
  Functions of the program as typed code, what they come to, and their contracts: written by program (mk.py).
-/
import Derived.Test.YtkedlclobjhkfaaTL
import Derived.KernelRfl
import Derived.Test.YtkedlclobjhkfaaMT
namespace Ab
open Go
set_option linter.unusedVariables false
set_option maxRecDepth 100000

/- tallyhall/tallylaw1.TreeHolds -/
def tc4 : TCode :=
  .seq (.region [
  ⟨some 2, .box (.t 0), none, []⟩,
  ⟨some 4, .mov (.c (.bool false)), none, []⟩] [] false)
  (.seq (.region [
  ⟨some 27, .build [.string ⟨#[]⟩, .int .i64 0, .int .i64 0, .string ⟨#[]⟩] [(0, 1, (.c (.string ⟨#[98]⟩))), (1, 1, (.c (.int .i64 (-1))))], none, []⟩,
  ⟨some 28, .build [.string ⟨#[]⟩, .int .i64 0, .int .i64 0, .string ⟨#[]⟩] [(0, 1, (.c (.string ⟨#[99]⟩))), (1, 1, (.c (.int .i64 0))), (2, 1, (.c (.int .i64 (-1))))], none, []⟩,
  ⟨some 29, .bslice false 4 [.string ⟨#[]⟩, .int .i64 0, .int .i64 0, .string ⟨#[]⟩] 2 [(0, (.t 27)), (1, (.t 28))], none, []⟩,
  ⟨some 30, .build [.string ⟨#[]⟩, .int .i64 0, .slice none 0 0] [(0, 1, (.c (.string ⟨#[97]⟩))), (2, 1, (.t 29))], none, []⟩,
  ⟨some 5, .alloc [.string ⟨#[]⟩, .int .i64 0, .slice none 0 0], none, []⟩,
  ⟨none, .store 3 (.t 5) (.t 30), none, []⟩] [.int, .int, .member] false)
  (.seq (.region [
  ⟨some 32, .load (some 3) (.t 5), none, []⟩,
  ⟨some 33, .call false [] 16 [(.t 32), (.c (.int .i64 0)), (.c (.int .i64 1))], none, []⟩,
  ⟨some 31, .mov (.t 33), none, []⟩,
  ⟨some 34, .ext (.t 31) 0, none, []⟩,
  ⟨some 35, .ext (.t 31) 1, none, []⟩,
  ⟨some 6, .mov (.t 34), none, []⟩,
  ⟨some 7, .mov (.t 35), none, []⟩] [] false)
  (.seq (.seq (.regionJ ⟨[.slot 41 .bool], [36, 37, 38, 39, 40], [], []⟩ [
  ⟨some 36, .mov (.t 7), none, []⟩,
  ⟨some 37, .eqn false true (.t 36), none, []⟩,
  ⟨some 38, .mov (.t 37), none, []⟩,
  ⟨some 39, .mov (.t 6), (some (38, false)), []⟩,
  ⟨some 40, .bin .int .neq (.t 39) (.c (.int .i64 (-1))), (some (38, false)), []⟩,
  ⟨some 41, .pick (.t 38) (.c (.bool true)) (.t 40), none, []⟩] [] false)
  (.cond (.t 41)
    (.seq (.region [
  ⟨some 4, .mov (.c (.bool false)), none, []⟩] [] false)
    (.ret))
    (.skip)))
  (.seq (.region [
  ⟨some 43, .load (some 3) (.t 2), none, []⟩,
  ⟨some 44, .mov (.t 1), none, []⟩,
  ⟨some 45, .call true [] 17 [(.t 43), (.t 44)], none, []⟩,
  ⟨some 42, .mov (.t 45), none, []⟩,
  ⟨some 46, .ext (.t 42) 0, none, []⟩,
  ⟨some 47, .ext (.t 42) 1, none, []⟩,
  ⟨some 8, .mov (.t 46), none, []⟩,
  ⟨some 9, .mov (.t 47), none, []⟩] [] false)
  (.seq (.seq (.region [
  ⟨some 48, .mov (.t 9), none, []⟩,
  ⟨some 49, .eqn false true (.t 48), none, []⟩] [] false)
  (.cond (.t 49)
    (.seq (.region [
  ⟨some 4, .mov (.c (.bool true)), none, []⟩] [] false)
    (.ret))
    (.skip)))
  (.seq (.region [
  ⟨some 51, .load (some 3) (.t 2), none, []⟩,
  ⟨some 52, .mov (.t 1), none, []⟩,
  ⟨some 53, .call true [] 18 [(.t 51), (.t 52)], none, []⟩,
  ⟨some 50, .mov (.t 53), none, []⟩,
  ⟨some 54, .ext (.t 50) 0, none, []⟩,
  ⟨some 55, .ext (.t 50) 1, none, []⟩,
  ⟨some 10, .mov (.t 54), none, []⟩,
  ⟨some 11, .mov (.t 55), none, []⟩] [] false)
  (.seq (.region [
  ⟨some 57, .load (some 3) (.t 2), none, []⟩,
  ⟨some 58, .mov (.t 1), none, []⟩,
  ⟨some 59, .call true [] 19 [(.t 57), (.t 58)], none, []⟩,
  ⟨some 56, .mov (.t 59), none, []⟩,
  ⟨some 60, .ext (.t 56) 0, none, []⟩,
  ⟨some 61, .ext (.t 56) 1, none, []⟩,
  ⟨some 12, .mov (.t 60), none, []⟩,
  ⟨some 13, .mov (.t 61), none, []⟩] [] false)
  (.seq (.region [
  ⟨some 63, .load (some 3) (.t 2), none, []⟩,
  ⟨some 64, .mov (.t 1), none, []⟩,
  ⟨some 65, .call false [] 20 [(.t 63), (.t 64)], none, []⟩,
  ⟨some 62, .mov (.t 65), none, []⟩,
  ⟨some 66, .ext (.t 62) 0, none, []⟩,
  ⟨some 67, .ext (.t 62) 1, none, []⟩,
  ⟨some 14, .mov (.t 66), none, []⟩,
  ⟨some 15, .mov (.t 67), none, []⟩] [] false)
  (.seq (.seq (.regionJ ⟨[.slot 100 .bool], [68, 69, 70, 71, 72, 73, 74, 75, 76, 77, 78, 79, 80, 81, 82, 83, 84, 85, 86, 87, 88, 89, 90, 91, 92, 93, 94, 95, 96, 97, 98, 99], [], []⟩ [
  ⟨some 68, .mov (.t 11), none, []⟩,
  ⟨some 69, .eqn false true (.t 68), none, []⟩,
  ⟨some 70, .mov (.t 69), none, []⟩,
  ⟨some 71, .mov (.t 13), (some (70, false)), []⟩,
  ⟨some 72, .eqn false true (.t 71), (some (70, false)), []⟩,
  ⟨some 73, .pick (.t 70) (.c (.bool true)) (.t 72), none, []⟩,
  ⟨some 74, .mov (.t 73), none, []⟩,
  ⟨some 75, .mov (.t 15), (some (74, false)), []⟩,
  ⟨some 76, .eqn false true (.t 75), (some (74, false)), []⟩,
  ⟨some 77, .pick (.t 74) (.c (.bool true)) (.t 76), none, []⟩,
  ⟨some 78, .mov (.t 77), none, []⟩,
  ⟨some 79, .mov (.t 12), (some (78, false)), []⟩,
  ⟨some 80, .len false (.t 79), (some (78, false)), []⟩,
  ⟨some 81, .bin .int .eql (.t 80) (.c (.int .i64 0)), (some (78, false)), []⟩,
  ⟨some 82, .pick (.t 78) (.c (.bool true)) (.t 81), none, []⟩,
  ⟨some 83, .mov (.t 82), none, []⟩,
  ⟨some 84, .mov (.t 12), (some (83, false)), []⟩,
  ⟨some 85, .ia 1 (.t 84) (.c (.int .i64 0)), (some (83, false)), []⟩,
  ⟨some 86, .load none (.t 85), (some (83, false)), []⟩,
  ⟨some 87, .mov (.t 1), (some (83, false)), []⟩,
  ⟨some 88, .bin .int .neq (.t 86) (.t 87), (some (83, false)), []⟩,
  ⟨some 89, .pick (.t 83) (.c (.bool true)) (.t 88), none, []⟩,
  ⟨some 90, .mov (.t 89), none, []⟩,
  ⟨some 91, .mov (.t 1), (some (90, false)), []⟩,
  ⟨some 92, .bin .int .lss (.t 91) (.c (.int .i64 0)), (some (90, false)), []⟩,
  ⟨some 93, .pick (.t 90) (.c (.bool true)) (.t 92), none, []⟩,
  ⟨some 94, .mov (.t 93), none, []⟩,
  ⟨some 95, .mov (.t 1), (some (94, false)), []⟩,
  ⟨some 96, .fa 2 (.t 2), (some (94, false)), []⟩,
  ⟨some 97, .load none (.t 96), (some (94, false)), []⟩,
  ⟨some 98, .len false (.t 97), (some (94, false)), []⟩,
  ⟨some 99, .bin .int .geq (.t 95) (.t 98), (some (94, false)), []⟩,
  ⟨some 100, .pick (.t 94) (.c (.bool true)) (.t 99), none, []⟩] [] false)
  (.cond (.t 100)
    (.seq (.region [
  ⟨some 4, .mov (.c (.bool false)), none, []⟩] [] false)
    (.ret))
    (.skip)))
  (.seq (.seq (.region [
  ⟨some 101, .mov (.t 14), none, []⟩] [] false)
  (.cond (.t 101)
    (.seq (.regionJ ⟨[.slot 4 .bool], [102, 103, 104, 105, 106, 107, 108, 109, 110, 111, 112, 113, 114, 115, 116], [], []⟩ [
  ⟨some 102, .mov (.t 10), none, []⟩,
  ⟨some 103, .len false (.t 102), none, []⟩,
  ⟨some 104, .bin .int .eql (.t 103) (.c (.int .i64 0)), none, []⟩,
  ⟨some 105, .mov (.t 104), none, []⟩,
  ⟨some 106, .mov (.t 8), (some (105, true)), []⟩,
  ⟨some 107, .len false (.t 106), (some (105, true)), []⟩,
  ⟨some 108, .bin .int .eql (.t 107) (.c (.int .i64 1)), (some (105, true)), []⟩,
  ⟨some 109, .pick (.t 105) (.t 108) (.c (.bool false)), none, []⟩,
  ⟨some 110, .mov (.t 109), none, []⟩,
  ⟨some 111, .mov (.t 8), (some (110, true)), []⟩,
  ⟨some 112, .ia 1 (.t 111) (.c (.int .i64 0)), (some (110, true)), []⟩,
  ⟨some 113, .load none (.t 112), (some (110, true)), []⟩,
  ⟨some 114, .mov (.t 1), (some (110, true)), []⟩,
  ⟨some 115, .bin .int .eql (.t 113) (.t 114), (some (110, true)), []⟩,
  ⟨some 116, .pick (.t 110) (.t 115) (.c (.bool false)), none, []⟩,
  ⟨some 4, .mov (.t 116), none, []⟩] [] false)
    (.ret))
    (.skip)))
  (.seq (.region [
  ⟨some 16, .mov (.c (.int .i64 0)), none, []⟩] [] false)
  (.seq (.seq (.region [
  ⟨some 17, .mov (.c (.int .i64 0)), none, []⟩] [] false)
  (.loop ⟨[.slot 16 .int, .slot 17 .int], [18, 19, 20, 21, 22, 23, 24, 25, 26, 117, 118, 119, 120, 121, 122, 123, 124, 125, 126, 127, 128, 129, 130, 131, 132, 133, 134, 135, 136, 137, 138, 139, 140, 141, 142, 143, 144, 145, 146, 147, 148, 149, 150, 151, 152, 153, 154, 155, 156, 157, 158, 159, 160, 161, 162, 163, 164, 165, 166, 167, 168, 169, 170, 171, 172, 173, 174, 175, 176, 177, 178, 179, 180, 181, 182, 183, 184, 185, 186, 187, 188, 189, 190, 191, 192, 193, 194, 195, 196, 197, 198, 199, 200, 201, 202, 203, 204, 205, 206, 207, 208, 209, 210, 211, 212, 213, 214, 215, 216, 217, 218, 219, 220, 221, 222, 223, 224, 225, 226, 227, 228, 229, 230, 231, 232], [], []⟩ 0 (.seq (.seq (.region [
  ⟨some 117, .mov (.t 17), none, []⟩,
  ⟨some 118, .mov (.t 10), none, []⟩,
  ⟨some 119, .len false (.t 118), none, []⟩,
  ⟨some 120, .bin .int .lss (.t 117) (.t 119), none, []⟩] [] false)
    (.cond (.t 120)
      (.skip)
      (.exit 0)))
    (.seq (.block 1 (.seq (.region [
  ⟨some 124, .load (some 3) (.t 2), none, []⟩,
  ⟨some 125, .mov (.t 10), none, []⟩,
  ⟨some 126, .mov (.t 17), none, []⟩,
  ⟨some 127, .ia 1 (.t 125) (.t 126), none, [1, 2]⟩,
  ⟨some 128, .load none (.t 127), none, [3]⟩,
  ⟨some 129, .call true [] 19 [(.t 124), (.t 128)], none, [0, 4]⟩,
  ⟨some 123, .mov (.t 129), none, [5]⟩,
  ⟨some 130, .ext (.t 123) 0, none, [6]⟩,
  ⟨some 131, .ext (.t 123) 1, none, [6]⟩,
  ⟨some 18, .mov (.t 130), none, [7, 5, 0, 1, 2, 3, 4, 5, 6, 7]⟩,
  ⟨some 19, .mov (.t 131), none, [8, 9, 0, 1, 2, 3, 4, 5, 6, 7, 8, 9]⟩] [] true)
      (.seq (.region [
  ⟨some 133, .load (some 3) (.t 2), none, []⟩,
  ⟨some 134, .mov (.t 10), none, []⟩,
  ⟨some 135, .mov (.t 17), none, []⟩,
  ⟨some 136, .ia 1 (.t 134) (.t 135), none, [1, 2]⟩,
  ⟨some 137, .load none (.t 136), none, [3]⟩,
  ⟨some 138, .call true [] 17 [(.t 133), (.t 137)], none, [0, 4]⟩,
  ⟨some 132, .mov (.t 138), none, [5]⟩,
  ⟨some 139, .ext (.t 132) 0, none, [6]⟩,
  ⟨some 140, .ext (.t 132) 1, none, [6]⟩,
  ⟨some 20, .mov (.t 139), none, [7, 5, 0, 1, 2, 3, 4, 5, 6, 7]⟩,
  ⟨some 21, .mov (.t 140), none, [8, 9, 0, 1, 2, 3, 4, 5, 6, 7, 8, 9]⟩] [] true)
      (.seq (.seq (.regionJ ⟨[.slot 178 .bool], [141, 142, 143, 144, 145, 146, 147, 148, 149, 150, 151, 152, 153, 154, 155, 156, 157, 158, 159, 160, 161, 162, 163, 164, 165, 166, 167, 168, 169, 170, 171, 172, 173, 174, 175, 176, 177], [], []⟩ [
  ⟨some 141, .mov (.t 19), none, []⟩,
  ⟨some 142, .eqn false true (.t 141), none, [0]⟩,
  ⟨some 143, .mov (.t 142), none, [1]⟩,
  ⟨some 144, .mov (.t 21), (some (143, false)), [2]⟩,
  ⟨some 145, .eqn false true (.t 144), (some (143, false)), [3, 2]⟩,
  ⟨some 146, .pick (.t 143) (.c (.bool true)) (.t 145), none, [2, 4]⟩,
  ⟨some 147, .mov (.t 146), none, [5, 2]⟩,
  ⟨some 148, .mov (.t 18), (some (147, false)), [6]⟩,
  ⟨some 149, .len false (.t 148), (some (147, false)), [7, 6]⟩,
  ⟨some 150, .mov (.t 12), (some (147, false)), [6]⟩,
  ⟨some 151, .len false (.t 150), (some (147, false)), [9, 6]⟩,
  ⟨some 152, .bin .int .add (.t 151) (.c (.int .i64 1)), (some (147, false)), [10, 6]⟩,
  ⟨some 153, .bin .int .neq (.t 149) (.t 152), (some (147, false)), [8, 11, 6]⟩,
  ⟨some 154, .pick (.t 147) (.c (.bool true)) (.t 153), none, [6, 12]⟩,
  ⟨some 155, .mov (.t 154), none, [13, 6]⟩,
  ⟨some 156, .mov (.t 18), (some (155, false)), [14]⟩,
  ⟨some 157, .ia 1 (.t 156) (.c (.int .i64 1)), (some (155, false)), [15, 14]⟩,
  ⟨some 158, .load none (.t 157), (some (155, false)), [16, 14]⟩,
  ⟨some 159, .mov (.t 1), (some (155, false)), [14]⟩,
  ⟨some 160, .bin .int .neq (.t 158) (.t 159), (some (155, false)), [17, 18, 14]⟩,
  ⟨some 161, .pick (.t 155) (.c (.bool true)) (.t 160), none, [14, 19]⟩,
  ⟨some 162, .mov (.t 161), none, [20, 14]⟩,
  ⟨some 163, .mov (.t 10), (some (162, false)), [21]⟩,
  ⟨some 164, .mov (.t 17), (some (162, false)), [21]⟩,
  ⟨some 165, .ia 1 (.t 163) (.t 164), (some (162, false)), [22, 23, 21]⟩,
  ⟨some 166, .load none (.t 165), (some (162, false)), [24, 21]⟩,
  ⟨some 167, .fa 2 (.t 2), (some (162, false)), [21]⟩,
  ⟨some 168, .load none (.t 167), (some (162, false)), [26, 21]⟩,
  ⟨some 169, .len false (.t 168), (some (162, false)), [27, 21]⟩,
  ⟨some 170, .bin .int .geq (.t 166) (.t 169), (some (162, false)), [25, 28, 21]⟩,
  ⟨some 171, .pick (.t 162) (.c (.bool true)) (.t 170), none, [21, 29]⟩,
  ⟨some 172, .mov (.t 171), none, [30, 21]⟩,
  ⟨some 173, .mov (.t 10), (some (172, false)), [31]⟩,
  ⟨some 174, .mov (.t 17), (some (172, false)), [31]⟩,
  ⟨some 175, .ia 1 (.t 173) (.t 174), (some (172, false)), [32, 33, 31]⟩,
  ⟨some 176, .load none (.t 175), (some (172, false)), [34, 31]⟩,
  ⟨some 177, .bin .int .lss (.t 176) (.c (.int .i64 0)), (some (172, false)), [35, 31]⟩,
  ⟨some 178, .pick (.t 172) (.c (.bool true)) (.t 177), none, [31, 36]⟩] [] true)
      (.cond (.t 178)
        (.seq (.region [
  ⟨some 4, .mov (.c (.bool false)), none, []⟩] [] false)
        (.ret))
        (.skip)))
      (.seq (.region [
  ⟨some 179, .mov (.t 16), none, []⟩,
  ⟨some 180, .mov (.t 20), none, []⟩,
  ⟨some 181, .len false (.t 180), none, []⟩,
  ⟨some 182, .bin .int .add (.t 179) (.t 181), none, []⟩,
  ⟨some 16, .mov (.t 182), none, []⟩] [] false)
      (.seq (.region [
  ⟨some 22, .mov (.c (.int .i64 0)), none, []⟩] [] false)
      (.loop ⟨[.slot 22 .int], [23, 24, 25, 26, 183, 184, 185, 186, 187, 188, 189, 190, 191, 192, 193, 194, 195, 196, 197, 198, 199, 200, 201, 202, 203, 204, 205, 206, 207, 208, 209, 210, 211, 212, 213, 214, 215, 216, 217, 218, 219, 220, 221, 222, 223, 224, 225, 226, 227, 228, 229, 230, 231, 232], [], []⟩ 2 (.seq (.seq (.region [
  ⟨some 183, .mov (.t 22), none, []⟩,
  ⟨some 184, .mov (.t 20), none, []⟩,
  ⟨some 185, .len false (.t 184), none, []⟩,
  ⟨some 186, .bin .int .lss (.t 183) (.t 185), none, []⟩] [] false)
        (.cond (.t 186)
          (.skip)
          (.exit 2)))
        (.seq (.block 3 (.seq (.region [
  ⟨some 190, .load (some 3) (.t 2), none, []⟩,
  ⟨some 191, .mov (.t 1), none, []⟩,
  ⟨some 192, .mov (.t 20), none, []⟩,
  ⟨some 193, .mov (.t 22), none, []⟩,
  ⟨some 194, .ia 1 (.t 192) (.t 193), none, [2, 3]⟩,
  ⟨some 195, .load none (.t 194), none, [4]⟩,
  ⟨some 196, .call false [] 16 [(.t 190), (.t 191), (.t 195)], none, [0, 1, 5]⟩,
  ⟨some 189, .mov (.t 196), none, [6]⟩,
  ⟨some 197, .ext (.t 189) 0, none, [7]⟩,
  ⟨some 198, .ext (.t 189) 1, none, [7]⟩,
  ⟨some 23, .mov (.t 197), none, [8, 6, 0, 1, 2, 3, 4, 5, 6, 7, 8]⟩,
  ⟨some 24, .mov (.t 198), none, [9, 10, 0, 1, 2, 3, 4, 5, 6, 7, 8, 9, 10]⟩] [] true)
          (.seq (.region [
  ⟨some 200, .load (some 3) (.t 2), none, []⟩,
  ⟨some 201, .mov (.t 10), none, []⟩,
  ⟨some 202, .mov (.t 17), none, []⟩,
  ⟨some 203, .ia 1 (.t 201) (.t 202), none, [1, 2]⟩,
  ⟨some 204, .load none (.t 203), none, [3]⟩,
  ⟨some 205, .mov (.t 20), none, []⟩,
  ⟨some 206, .mov (.t 22), none, []⟩,
  ⟨some 207, .ia 1 (.t 205) (.t 206), none, [5, 6]⟩,
  ⟨some 208, .load none (.t 207), none, [7]⟩,
  ⟨some 209, .call false [] 16 [(.t 200), (.t 204), (.t 208)], none, [0, 4, 8]⟩,
  ⟨some 199, .mov (.t 209), none, [9]⟩,
  ⟨some 210, .ext (.t 199) 0, none, [10]⟩,
  ⟨some 211, .ext (.t 199) 1, none, [10]⟩,
  ⟨some 25, .mov (.t 210), none, [11, 9, 0, 1, 2, 3, 4, 5, 6, 7, 8, 9, 10, 11]⟩,
  ⟨some 26, .mov (.t 211), none, [12, 13, 0, 1, 2, 3, 4, 5, 6, 7, 8, 9, 10, 11, 12, 13]⟩] [] true)
          (.seq (.regionJ ⟨[.slot 232 .bool], [212, 213, 214, 215, 216, 217, 218, 219, 220, 221, 222, 223, 224, 225, 226, 227, 228, 229, 230, 231], [], []⟩ [
  ⟨some 212, .mov (.t 24), none, []⟩,
  ⟨some 213, .eqn false true (.t 212), none, [0]⟩,
  ⟨some 214, .mov (.t 213), none, [1]⟩,
  ⟨some 215, .mov (.t 26), (some (214, false)), [2]⟩,
  ⟨some 216, .eqn false true (.t 215), (some (214, false)), [3, 2]⟩,
  ⟨some 217, .pick (.t 214) (.c (.bool true)) (.t 216), none, [2, 4]⟩,
  ⟨some 218, .mov (.t 217), none, [5, 2]⟩,
  ⟨some 219, .mov (.t 23), (some (218, false)), [6]⟩,
  ⟨some 220, .mov (.t 25), (some (218, false)), [6]⟩,
  ⟨some 221, .fa 2 (.t 2), (some (218, false)), [6]⟩,
  ⟨some 222, .load none (.t 221), (some (218, false)), [9, 6]⟩,
  ⟨some 223, .mov (.t 10), (some (218, false)), [6]⟩,
  ⟨some 224, .mov (.t 17), (some (218, false)), [6]⟩,
  ⟨some 225, .ia 1 (.t 223) (.t 224), (some (218, false)), [11, 12, 6]⟩,
  ⟨some 226, .load none (.t 225), (some (218, false)), [13, 6]⟩,
  ⟨some 227, .ia 4 (.t 222) (.t 226), (some (218, false)), [10, 14, 6]⟩,
  ⟨some 228, .fa 2 (.t 227), (some (218, false)), [15, 6]⟩,
  ⟨some 229, .load none (.t 228), (some (218, false)), [16, 6]⟩,
  ⟨some 230, .bin .int .mul (.t 220) (.t 229), (some (218, false)), [8, 17, 6]⟩,
  ⟨some 231, .bin .int .neq (.t 219) (.t 230), (some (218, false)), [7, 18, 6]⟩,
  ⟨some 232, .pick (.t 218) (.c (.bool true)) (.t 231), none, [6, 19]⟩] [] true)
          (.cond (.t 232)
            (.seq (.region [
  ⟨some 4, .mov (.c (.bool false)), none, []⟩] [] false)
            (.ret))
            (.skip))))))
        (.region [
  ⟨some 187, .mov (.t 22), none, []⟩,
  ⟨some 188, .bin .int .add (.t 187) (.c (.int .i64 1)), none, []⟩,
  ⟨some 22, .mov (.t 188), none, []⟩] [] false))))))))))
    (.region [
  ⟨some 121, .mov (.t 17), none, []⟩,
  ⟨some 122, .bin .int .add (.t 121) (.c (.int .i64 1)), none, []⟩,
  ⟨some 17, .mov (.t 122), none, []⟩] [] false)))))
  (.seq (.region [
  ⟨some 233, .mov (.t 16), none, []⟩,
  ⟨some 234, .mov (.t 8), none, []⟩,
  ⟨some 235, .len false (.t 234), none, []⟩,
  ⟨some 236, .bin .int .eql (.t 233) (.t 235), none, []⟩,
  ⟨some 4, .mov (.t 236), none, []⟩] [] false)
  (.ret))))))))))))))
def tf4 : TFunc := { np := 2, nt := 237, res := [.tmp 4], own := false, body := tc4 }
noncomputable def S4_L1 (F16 : Dim → Int → Int → (Option (Int × Err))) (a0 : Dim) (a1 : Int) (y4 : ((List Int) × Err)) (x11 : (Int × Int)) (y15 : ((List Int) × Err)) (x20 : Int) : Option (LR Int (LR (Int × Int) Bool)) :=
  br (decide (x20 < ((List.length y15.1 : Nat) : Int)))
  (bno (lookI y15.1 x20) fun y21 =>
  bno (F16 a0 a1 y21) fun y22 =>
  bno (lookI y4.1 x11.2) fun y23 =>
  bno (lookI y15.1 x20) fun y24 =>
  bno (F16 a0 y23 y24) fun y25 =>
  jn (σ := Bool) (α := (LR Int (LR (Int × Int) Bool))) (br (!(Err.isNil y22.2))
  (inlO (some true))
  (br (!(Err.isNil y25.2))
  (inlO (some true))
  (bno (lookI y4.1 x11.2) fun y26 =>
  bno (lookI (Dim.members a0) y26) fun y27 =>
  inlO (some (decide (¬ y22.1 = (wi (y25.1 * (Member.sign y27))))))))) fun x28 =>
  br x28
  (finO (finO (some false)))
  (nxO (some (wi (x20 + (1 : Int))))))
  (dnO (some x20))
noncomputable def S4_L2 (F16 : Dim → Int → Int → (Option (Int × Err))) (F17 : Dim → Int → (Option ((List Int) × Err))) (F19 : Dim → Int → (Option ((List Int) × Err))) (a0 : Dim) (a1 : Int) (y4 : ((List Int) × Err)) (y5 : ((List Int) × Err)) (x11 : (Int × Int)) : Option (LR (Int × Int) Bool) :=
  br (decide (x11.2 < ((List.length y4.1 : Nat) : Int)))
  (bno (lookI y4.1 x11.2) fun y12 =>
  bno (F19 a0 y12) fun y13 =>
  bno (lookI y4.1 x11.2) fun y14 =>
  bno (F17 a0 y14) fun y15 =>
  jn (σ := Bool) (α := (LR (Int × Int) Bool)) (br (!(Err.isNil y13.2))
  (inlO (some true))
  (br (!(Err.isNil y15.2))
  (inlO (some true))
  (br (decide (¬ ((List.length y13.1 : Nat) : Int) = (wi (((List.length y5.1 : Nat) : Int) + (1 : Int)))))
  (inlO (some true))
  (bno (lookI y13.1 (1 : Int)) fun y16 =>
  br (decide (¬ y16 = a1))
  (inlO (some true))
  (bno (lookI y4.1 x11.2) fun y17 =>
  br (decide (((List.length (Dim.members a0) : Nat) : Int) ≤ y17))
  (inlO (some true))
  (bno (lookI y4.1 x11.2) fun y18 =>
  inlO (some (decide (y18 < (0 : Int)))))))))) fun x19 =>
  br x19
  (finO (some false))
  (lp (S4_L1 F16 a0 a1 y4 x11 y15) (0 : Int) fun x29 =>
  nxO (some (wi (x11.1 + ((List.length y15.1 : Nat) : Int)), wi (x11.2 + (1 : Int))))))
  (dnO (some (x11.1, x11.2)))
noncomputable def S4 (F16 : Dim → Int → Int → (Option (Int × Err))) (F17 : Dim → Int → (Option ((List Int) × Err))) (F18 : Dim → Int → (Option ((List Int) × Err))) (F19 : Dim → Int → (Option ((List Int) × Err))) (F20 : Dim → Int → (Option (Bool × Err))) (a0 : Dim) (a1 : Int) : Option Bool :=
  bno (F16 (Dim.mk (⟨#[97]⟩ : ByteArray) (0 : Int) ([Member.mk (⟨#[98]⟩ : ByteArray) (-1 : Int) (0 : Int) (⟨#[]⟩ : ByteArray), Member.mk (⟨#[99]⟩ : ByteArray) (0 : Int) (-1 : Int) (⟨#[]⟩ : ByteArray)] : List Member)) (0 : Int) (1 : Int)) fun y1 =>
  jn (σ := Bool) (α := Bool) (br (!(Err.isNil y1.2))
  (inlO (some true))
  (inlO (some (decide (¬ y1.1 = (-1 : Int)))))) fun x2 =>
  br x2
  (some false)
  (bno (F17 a0 a1) fun y3 =>
  br (!(Err.isNil y3.2))
  (some true)
  (bno (F18 a0 a1) fun y4 =>
  bno (F19 a0 a1) fun y5 =>
  bno (F20 a0 a1) fun y6 =>
  jn (σ := Bool) (α := Bool) (br (!(Err.isNil y4.2))
  (inlO (some true))
  (br (!(Err.isNil y5.2))
  (inlO (some true))
  (br (!(Err.isNil y6.2))
  (inlO (some true))
  (br (decide (((List.length y5.1 : Nat) : Int) = (0 : Int)))
  (inlO (some true))
  (bno (lookI y5.1 (0 : Int)) fun y7 =>
  br (decide (¬ y7 = a1))
  (inlO (some true))
  (br (decide (a1 < (0 : Int)))
  (inlO (some true))
  (inlO (some (decide (((List.length (Dim.members a0) : Nat) : Int) ≤ a1)))))))))) fun x8 =>
  br x8
  (some false)
  (br y6.1
  (jn (σ := Bool) (α := Bool) (br (decide (((List.length y4.1 : Nat) : Int) = (0 : Int)))
  (br (decide (((List.length y3.1 : Nat) : Int) = (1 : Int)))
  (bno (lookI y3.1 (0 : Int)) fun y9 =>
  inlO (some (decide (y9 = a1))))
  (inlO (some false)))
  (inlO (some false))) fun x10 =>
  some x10)
  (lp (S4_L2 F16 F17 F19 a0 a1 y4 y5) ((0 : Int), (0 : Int)) fun x30 =>
  some (decide (x30.1 = ((List.length y3.1 : Nat) : Int)))))))
theorem s4 (F16 : Dim → Int → Int → (Option (Int × Err))) (F17 : Dim → Int → (Option ((List Int) × Err))) (F18 : Dim → Int → (Option ((List Int) × Err))) (F19 : Dim → Int → (Option ((List Int) × Err))) (F20 : Dim → Int → (Option (Bool × Err))) (a0 : Dim) (a1 : Int) : tf4.run [⟨16, [(.st .dim), .int, .int], (.tp [.int, .err]), fun x => F16 x.1 x.2.1 x.2.2, false⟩,
  ⟨17, [(.st .dim), .int], (.tp [(.sl .int), .err]), fun x => F17 x.1 x.2, false⟩,
  ⟨18, [(.st .dim), .int], (.tp [(.sl .int), .err]), fun x => F18 x.1 x.2, false⟩,
  ⟨19, [(.st .dim), .int], (.tp [(.sl .int), .err]), fun x => F19 x.1 x.2, false⟩,
  ⟨20, [(.st .dim), .int], (.tp [.bool, .err]), fun x => F20 x.1 x.2, false⟩] [(.st .dim), .int] .bool (a0, a1) = S4 F16 F17 F18 F19 F20 a0 a1 := by kernel_rfl
noncomputable def P4 (a0 : Dim) (a1 : Int) : Option Bool := S4 P16 P17 P18 P19 P20 a0 a1
noncomputable def k4 : CSpec := ⟨4, [(.st .dim), .int], .bool, fun x => P4 x.1 x.2, false⟩
theorem r4 {S : Seat} (h : Ok1 S 4 tf4) (h16 : Rt S k16) (h17 : Rt S k17) (h18 : Rt S k18) (h19 : Rt S k19) (h20 : Rt S k20) : Rt S k4 := fun x y hy =>
  Ok1.sound h (C := [k16, k17, k18, k19, k20]) (CSound.cons h16 (CSound.cons h17 (CSound.cons h18 (CSound.cons h19 (CSound.cons h20 CSound.nil))))) rfl rfl rfl ((s4 P16 P17 P18 P19 P20 x.1 x.2).trans hy)

end Ab
