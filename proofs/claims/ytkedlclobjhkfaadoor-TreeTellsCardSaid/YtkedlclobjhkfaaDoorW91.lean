/-
  Functions of the program as typed code, what they come to, and their contracts: written by program (mk.py).
-/
import Derived.Test.YtkedlclobjhkfaaDoorTL
import Derived.KernelRfl
import Derived.Test.YtkedlclobjhkfaaDoorMR
import Derived.Test.YtkedlclobjhkfaaDoorMS
import Derived.Test.YtkedlclobjhkfaaDoorMT
namespace Ab
open Go
set_option linter.unusedVariables false
set_option maxRecDepth 100000

/- tallyhall/tallylaw1.TreeTells -/
def tc91 : TCode :=
  .seq (.region [
  ⟨some 3, .box (.t 0), none, []⟩,
  ⟨some 6, .mov (.c (.bool false)), none, []⟩] [] false)
  (.seq (.region [
  ⟨some 38, .load (some 3) (.t 3), none, []⟩,
  ⟨some 39, .call false [] 95 [(.t 38)], none, []⟩,
  ⟨some 37, .mov (.t 39), none, []⟩,
  ⟨some 40, .ext (.t 37) 0, none, []⟩,
  ⟨some 41, .ext (.t 37) 1, none, []⟩,
  ⟨some 7, .mov (.t 40), none, []⟩,
  ⟨some 8, .mov (.t 41), none, []⟩] [] false)
  (.seq (.region [
  ⟨some 42, .mov (.t 8), none, []⟩,
  ⟨some 9, .mov (.t 42), none, []⟩] [] false)
  (.seq (.seq (.regionJ ⟨[.slot 55 .bool], [43, 44, 45, 46, 47, 48, 49, 50, 51, 52, 53, 54], [], []⟩ [
  ⟨some 43, .mov (.t 9), none, []⟩,
  ⟨some 44, .bin .int .eql (.t 43) (.c (.int .i64 0)), none, []⟩,
  ⟨some 45, .mov (.t 44), none, []⟩,
  ⟨some 46, .mov (.t 1), (some (45, true)), []⟩,
  ⟨some 47, .bin .int .lss (.t 46) (.c (.int .i64 0)), (some (45, true)), []⟩,
  ⟨some 48, .mov (.t 47), (some (45, true)), []⟩,
  ⟨some 49, .mov (.t 1), (some (48, false)), []⟩,
  ⟨some 50, .fa 2 (.t 3), (some (48, false)), []⟩,
  ⟨some 51, .load none (.t 50), (some (48, false)), []⟩,
  ⟨some 52, .len false (.t 51), (some (48, false)), []⟩,
  ⟨some 53, .bin .int .geq (.t 49) (.t 52), (some (48, false)), []⟩,
  ⟨some 54, .pick (.t 48) (.c (.bool true)) (.t 53), (some (45, true)), []⟩,
  ⟨some 55, .pick (.t 45) (.t 54) (.c (.bool false)), none, []⟩] [] false)
  (.condJ ⟨[.slot 9 .int], [], [], []⟩ (.t 55)
    (.region [
  ⟨some 9, .mov (.c (.int .i64 1)), none, []⟩] [] false)
    (.skip)))
  (.seq (.region [
  ⟨some 10, .mov (.c (.slice none 0 0)), none, []⟩,
  ⟨some 11, .mov (.c (.slice none 0 0)), none, []⟩,
  ⟨some 12, .mov (.c (.slice none 0 0)), none, []⟩] [] false)
  (.seq (.region [
  ⟨some 13, .mov (.c (.bool false)), none, []⟩] [] false)
  (.seq (.seq (.region [
  ⟨some 56, .mov (.t 9), none, []⟩,
  ⟨some 57, .bin .int .eql (.t 56) (.c (.int .i64 0)), none, []⟩] [] false)
  (.condJ ⟨[.slot 10 (.sl .int), .slot 11 (.sl .int), .row 12 79 .int, .slot 13 .bool], [14, 58, 59, 60, 61, 62, 63, 64, 65, 66, 67, 68, 69, 70, 71, 72, 73, 74, 75, 76, 77, 78, 79], [78], []⟩ (.t 57)
    (.seq (.region [
  ⟨some 58, .load (some 3) (.t 3), none, []⟩,
  ⟨some 59, .mov (.t 1), none, []⟩,
  ⟨some 60, .call true [] 100 [(.t 58), (.t 59)], none, []⟩,
  ⟨some 10, .mov (.t 60), none, []⟩] [] false)
    (.seq (.region [
  ⟨some 61, .load (some 3) (.t 3), none, []⟩,
  ⟨some 62, .mov (.t 1), none, []⟩,
  ⟨some 63, .call true [] 101 [(.t 61), (.t 62)], none, []⟩,
  ⟨some 11, .mov (.t 63), none, []⟩] [] false)
    (.seq (.region [
  ⟨some 64, .load (some 3) (.t 3), none, []⟩,
  ⟨some 65, .mov (.t 1), none, []⟩,
  ⟨some 66, .call false [] 102 [(.t 64), (.t 65)], none, []⟩,
  ⟨some 13, .mov (.t 66), none, []⟩] [] false)
    (.seq (.region [
  ⟨some 67, .mov (.t 1), none, []⟩,
  ⟨some 14, .mov (.t 67), none, []⟩] [] false)
    (.loop ⟨[.row 12 79 .int, .slot 14 .int], [68, 69, 70, 71, 72, 73, 74, 75, 76, 77, 78, 79], [78], []⟩ 0 (.seq (.seq (.region [
  ⟨some 68, .mov (.t 14), none, []⟩,
  ⟨some 69, .bin .int .geq (.t 68) (.c (.int .i64 0)), none, []⟩] [] false)
      (.cond (.t 69)
        (.skip)
        (.exit 0)))
      (.seq (.block 1 (.region [
  ⟨some 76, .mov (.t 12), none, []⟩,
  ⟨some 77, .mov (.t 14), none, []⟩,
  ⟨some 78, .bslice false 1 [.int .i64 0] 1 [(0, (.t 77))], none, []⟩,
  ⟨some 79, .app 1 (.t 76) (.t 78), none, []⟩,
  ⟨some 12, .mov (.t 79), none, []⟩] [] false))
      (.region [
  ⟨some 70, .fa 2 (.t 3), none, []⟩,
  ⟨some 71, .load none (.t 70), none, []⟩,
  ⟨some 72, .mov (.t 14), none, []⟩,
  ⟨some 73, .ia 4 (.t 71) (.t 72), none, []⟩,
  ⟨some 74, .fa 1 (.t 73), none, []⟩,
  ⟨some 75, .load none (.t 74), none, []⟩,
  ⟨some 14, .mov (.t 75), none, []⟩] [] false))))))))
    (.skip)))
  (.seq (.region [
  ⟨some 81, .load (some 3) (.t 3), none, []⟩,
  ⟨some 82, .mov (.t 1), none, []⟩,
  ⟨some 83, .call true [] 18 [(.t 81), (.t 82)], none, []⟩,
  ⟨some 80, .mov (.t 83), none, []⟩,
  ⟨some 84, .ext (.t 80) 0, none, []⟩,
  ⟨some 85, .ext (.t 80) 1, none, []⟩,
  ⟨some 15, .mov (.t 84), none, []⟩,
  ⟨some 16, .mov (.t 85), none, []⟩] [] false)
  (.seq (.region [
  ⟨some 86, .mov (.t 16), none, []⟩,
  ⟨some 87, .mov (.t 9), none, []⟩,
  ⟨some 88, .call false [] 92 [(.t 86), (.t 87)], none, []⟩,
  ⟨some 17, .mov (.t 88), none, []⟩] [] false)
  (.seq (.region [
  ⟨some 90, .load (some 3) (.t 3), none, []⟩,
  ⟨some 91, .mov (.t 1), none, []⟩,
  ⟨some 92, .call true [] 17 [(.t 90), (.t 91)], none, []⟩,
  ⟨some 89, .mov (.t 92), none, []⟩,
  ⟨some 93, .ext (.t 89) 0, none, []⟩,
  ⟨some 94, .ext (.t 89) 1, none, []⟩,
  ⟨some 18, .mov (.t 93), none, []⟩,
  ⟨some 16, .mov (.t 94), none, []⟩] [] false)
  (.seq (.region [
  ⟨some 95, .mov (.t 16), none, []⟩,
  ⟨some 96, .mov (.t 9), none, []⟩,
  ⟨some 97, .call false [] 92 [(.t 95), (.t 96)], none, []⟩,
  ⟨some 19, .mov (.t 97), none, []⟩] [] false)
  (.seq (.region [
  ⟨some 99, .load (some 3) (.t 3), none, []⟩,
  ⟨some 100, .mov (.t 1), none, []⟩,
  ⟨some 101, .call true [] 19 [(.t 99), (.t 100)], none, []⟩,
  ⟨some 98, .mov (.t 101), none, []⟩,
  ⟨some 102, .ext (.t 98) 0, none, []⟩,
  ⟨some 103, .ext (.t 98) 1, none, []⟩,
  ⟨some 20, .mov (.t 102), none, []⟩,
  ⟨some 16, .mov (.t 103), none, []⟩] [] false)
  (.seq (.region [
  ⟨some 104, .mov (.t 16), none, []⟩,
  ⟨some 105, .mov (.t 9), none, []⟩,
  ⟨some 106, .call false [] 92 [(.t 104), (.t 105)], none, []⟩,
  ⟨some 21, .mov (.t 106), none, []⟩] [] false)
  (.seq (.region [
  ⟨some 108, .load (some 3) (.t 3), none, []⟩,
  ⟨some 109, .mov (.t 1), none, []⟩,
  ⟨some 110, .call false [] 20 [(.t 108), (.t 109)], none, []⟩,
  ⟨some 107, .mov (.t 110), none, []⟩,
  ⟨some 111, .ext (.t 107) 0, none, []⟩,
  ⟨some 112, .ext (.t 107) 1, none, []⟩,
  ⟨some 22, .mov (.t 111), none, []⟩,
  ⟨some 16, .mov (.t 112), none, []⟩] [] false)
  (.seq (.region [
  ⟨some 113, .mov (.t 16), none, []⟩,
  ⟨some 114, .mov (.t 9), none, []⟩,
  ⟨some 115, .call false [] 92 [(.t 113), (.t 114)], none, []⟩,
  ⟨some 23, .mov (.t 115), none, []⟩] [] false)
  (.seq (.region [
  ⟨some 24, .mov (.c (.int .i64 0)), none, []⟩] [] false)
  (.seq (.seq (.regionJ ⟨[.slot 128 .bool], [116, 117, 118, 119, 120, 121, 122, 123, 124, 125, 126, 127], [], []⟩ [
  ⟨some 116, .mov (.t 9), none, []⟩,
  ⟨some 117, .bin .int .eql (.t 116) (.c (.int .i64 0)), none, []⟩,
  ⟨some 118, .mov (.t 117), none, []⟩,
  ⟨some 119, .mov (.t 2), (some (118, true)), []⟩,
  ⟨some 120, .bin .int .lss (.t 119) (.c (.int .i64 0)), (some (118, true)), []⟩,
  ⟨some 121, .mov (.t 120), (some (118, true)), []⟩,
  ⟨some 122, .mov (.t 2), (some (121, false)), []⟩,
  ⟨some 123, .fa 2 (.t 3), (some (121, false)), []⟩,
  ⟨some 124, .load none (.t 123), (some (121, false)), []⟩,
  ⟨some 125, .len false (.t 124), (some (121, false)), []⟩,
  ⟨some 126, .bin .int .geq (.t 122) (.t 125), (some (121, false)), []⟩,
  ⟨some 127, .pick (.t 121) (.c (.bool true)) (.t 126), (some (118, true)), []⟩,
  ⟨some 128, .pick (.t 118) (.t 127) (.c (.bool false)), none, []⟩] [] false)
  (.condJ ⟨[.slot 9 .int], [], [], []⟩ (.t 128)
    (.region [
  ⟨some 9, .mov (.c (.int .i64 1)), none, []⟩] [] false)
    (.skip)))
  (.seq (.seq (.region [
  ⟨some 129, .mov (.t 9), none, []⟩,
  ⟨some 130, .bin .int .eql (.t 129) (.c (.int .i64 0)), none, []⟩] [] false)
  (.condJ ⟨[.slot 9 .int, .slot 24 .int], [25, 131, 132, 133, 134, 135, 136, 137, 138, 139, 140, 141], [], []⟩ (.t 130)
    (.seq (.region [
  ⟨some 131, .load (some 3) (.t 3), none, []⟩,
  ⟨some 132, .mov (.t 2), none, []⟩,
  ⟨some 133, .call false [] 102 [(.t 131), (.t 132)], none, []⟩,
  ⟨some 25, .mov (.t 133), none, []⟩] [] false)
    (.seq (.region [
  ⟨some 134, .mov (.t 25), none, []⟩] [] false)
    (.condJ ⟨[.slot 9 .int, .slot 24 .int], [135, 136, 137, 138, 139, 140, 141], [], []⟩ (.t 134)
      (.region [
  ⟨some 136, .load (some 3) (.t 3), none, []⟩,
  ⟨some 137, .mov (.t 1), none, []⟩,
  ⟨some 138, .mov (.t 2), none, []⟩,
  ⟨some 139, .call false [] 103 [(.t 136), (.t 137), (.t 138)], none, []⟩,
  ⟨some 135, .mov (.t 139), none, []⟩,
  ⟨some 140, .ext (.t 135) 0, none, []⟩,
  ⟨some 141, .ext (.t 135) 1, none, []⟩,
  ⟨some 24, .mov (.t 140), none, []⟩] [] false)
      (.region [
  ⟨some 9, .mov (.c (.int .i64 3)), none, []⟩] [] false))))
    (.skip)))
  (.seq (.region [
  ⟨some 143, .load (some 3) (.t 3), none, []⟩,
  ⟨some 144, .mov (.t 1), none, []⟩,
  ⟨some 145, .mov (.t 2), none, []⟩,
  ⟨some 146, .call false [] 16 [(.t 143), (.t 144), (.t 145)], none, []⟩,
  ⟨some 142, .mov (.t 146), none, []⟩,
  ⟨some 147, .ext (.t 142) 0, none, []⟩,
  ⟨some 148, .ext (.t 142) 1, none, []⟩,
  ⟨some 26, .mov (.t 147), none, []⟩,
  ⟨some 16, .mov (.t 148), none, []⟩] [] false)
  (.seq (.region [
  ⟨some 149, .mov (.t 16), none, []⟩,
  ⟨some 150, .mov (.t 9), none, []⟩,
  ⟨some 151, .call false [] 92 [(.t 149), (.t 150)], none, []⟩,
  ⟨some 27, .mov (.t 151), none, []⟩] [] false)
  (.seq (.region [
  ⟨some 28, .mov (.c (.int .i64 0)), none, []⟩] [] false)
  (.seq (.seq (.region [
  ⟨some 29, .mov (.c (.int .i64 0)), none, []⟩] [] false)
  (.loop ⟨[.slot 28 .int, .slot 29 .int], [30, 31, 152, 153, 154, 155, 156, 157, 158, 159, 160, 161, 162, 163, 164, 165, 166, 167, 168, 169, 170, 171, 172, 173, 174, 175, 176, 177], [], []⟩ 2 (.seq (.seq (.regionJ ⟨[.slot 160 .bool], [152, 153, 154, 155, 156, 157, 158, 159], [], []⟩ [
  ⟨some 152, .mov (.t 29), none, []⟩,
  ⟨some 153, .fa 2 (.t 3), none, []⟩,
  ⟨some 154, .load none (.t 153), none, []⟩,
  ⟨some 155, .len false (.t 154), none, []⟩,
  ⟨some 156, .bin .int .lss (.t 152) (.t 155), none, []⟩,
  ⟨some 157, .mov (.t 156), none, []⟩,
  ⟨some 158, .mov (.t 8), (some (157, true)), []⟩,
  ⟨some 159, .bin .int .eql (.t 158) (.c (.int .i64 0)), (some (157, true)), []⟩,
  ⟨some 160, .pick (.t 157) (.t 159) (.c (.bool false)), none, []⟩] [] false)
    (.cond (.t 160)
      (.skip)
      (.exit 2)))
    (.seq (.block 3 (.seq (.region [
  ⟨some 30, .mov (.c (.int .i64 0)), none, []⟩] [] false)
      (.seq (.seq (.region [
  ⟨some 163, .mov (.t 29), none, []⟩,
  ⟨some 31, .mov (.t 163), none, []⟩] [] false)
      (.loop ⟨[.slot 30 .int, .slot 31 .int], [164, 165, 166, 167, 168, 169, 170, 171, 172, 173], [], []⟩ 4 (.seq (.seq (.region [
  ⟨some 164, .mov (.t 31), none, []⟩,
  ⟨some 165, .bin .int .geq (.t 164) (.c (.int .i64 0)), none, []⟩] [] false)
        (.cond (.t 165)
          (.skip)
          (.exit 4)))
        (.seq (.block 5 (.region [
  ⟨some 172, .mov (.t 30), none, []⟩,
  ⟨some 173, .bin .int .add (.t 172) (.c (.int .i64 1)), none, []⟩,
  ⟨some 30, .mov (.t 173), none, []⟩] [] false))
        (.region [
  ⟨some 166, .fa 2 (.t 3), none, []⟩,
  ⟨some 167, .load none (.t 166), none, []⟩,
  ⟨some 168, .mov (.t 31), none, []⟩,
  ⟨some 169, .ia 4 (.t 167) (.t 168), none, []⟩,
  ⟨some 170, .fa 1 (.t 169), none, []⟩,
  ⟨some 171, .load none (.t 170), none, []⟩,
  ⟨some 31, .mov (.t 171), none, []⟩] [] false)))))
      (.seq (.region [
  ⟨some 174, .mov (.t 30), none, []⟩,
  ⟨some 175, .mov (.t 28), none, []⟩,
  ⟨some 176, .bin .int .gtr (.t 174) (.t 175), none, []⟩] [] false)
      (.condJ ⟨[.slot 28 .int], [177], [], []⟩ (.t 176)
        (.region [
  ⟨some 177, .mov (.t 30), none, []⟩,
  ⟨some 28, .mov (.t 177), none, []⟩] [] false)
        (.skip))))))
    (.region [
  ⟨some 161, .mov (.t 29), none, []⟩,
  ⟨some 162, .bin .int .add (.t 161) (.c (.int .i64 1)), none, []⟩,
  ⟨some 29, .mov (.t 162), none, []⟩] [] false)))))
  (.seq (.region [
  ⟨some 179, .load (some 3) (.t 3), none, []⟩,
  ⟨some 180, .call false [] 99 [(.t 179)], none, []⟩,
  ⟨some 178, .mov (.t 180), none, []⟩,
  ⟨some 181, .ext (.t 178) 0, none, []⟩,
  ⟨some 182, .ext (.t 178) 1, none, []⟩,
  ⟨some 32, .mov (.t 181), none, []⟩,
  ⟨some 16, .mov (.t 182), none, []⟩] [] false)
  (.seq (.region [
  ⟨some 183, .mov (.t 16), none, []⟩,
  ⟨some 184, .mov (.t 8), none, []⟩,
  ⟨some 185, .call false [] 92 [(.t 183), (.t 184)], none, []⟩,
  ⟨some 33, .mov (.t 185), none, []⟩] [] false)
  (.seq (.region [
  ⟨some 186, .mov (.t 15), none, []⟩,
  ⟨some 187, .mov (.t 10), none, []⟩,
  ⟨some 188, .call false [] 104 [(.t 186), (.t 187)], none, []⟩,
  ⟨some 34, .mov (.t 188), none, []⟩] [] false)
  (.seq (.region [
  ⟨some 189, .mov (.t 18), none, []⟩,
  ⟨some 190, .mov (.t 11), none, []⟩,
  ⟨some 191, .call false [] 104 [(.t 189), (.t 190)], none, []⟩,
  ⟨some 35, .mov (.t 191), none, []⟩] [] false)
  (.seq (.region [
  ⟨some 192, .mov (.t 20), none, []⟩,
  ⟨some 193, .mov (.t 12), none, []⟩,
  ⟨some 194, .call false [] 104 [(.t 192), (.t 193)], none, []⟩,
  ⟨some 36, .mov (.t 194), none, []⟩] [] false)
  (.seq (.regionJ ⟨[.slot 6 .bool], [195, 196, 197, 198, 199, 200, 201, 202, 203, 204, 205, 206, 207, 208, 209, 210, 211, 212, 213, 214, 215, 216, 217, 218, 219, 220, 221, 222, 223, 224, 225, 226, 227, 228, 229, 230, 231, 232, 233, 234], [], []⟩ [
  ⟨some 195, .mov (.t 17), none, []⟩,
  ⟨some 196, .mov (.t 195), none, []⟩,
  ⟨some 197, .mov (.t 19), (some (196, true)), []⟩,
  ⟨some 198, .pick (.t 196) (.t 197) (.c (.bool false)), none, []⟩,
  ⟨some 199, .mov (.t 198), none, []⟩,
  ⟨some 200, .mov (.t 21), (some (199, true)), []⟩,
  ⟨some 201, .pick (.t 199) (.t 200) (.c (.bool false)), none, []⟩,
  ⟨some 202, .mov (.t 201), none, []⟩,
  ⟨some 203, .mov (.t 23), (some (202, true)), []⟩,
  ⟨some 204, .pick (.t 202) (.t 203) (.c (.bool false)), none, []⟩,
  ⟨some 205, .mov (.t 204), none, []⟩,
  ⟨some 206, .mov (.t 27), (some (205, true)), []⟩,
  ⟨some 207, .pick (.t 205) (.t 206) (.c (.bool false)), none, []⟩,
  ⟨some 208, .mov (.t 207), none, []⟩,
  ⟨some 209, .mov (.t 33), (some (208, true)), []⟩,
  ⟨some 210, .pick (.t 208) (.t 209) (.c (.bool false)), none, []⟩,
  ⟨some 211, .mov (.t 210), none, []⟩,
  ⟨some 212, .mov (.t 34), (some (211, true)), []⟩,
  ⟨some 213, .pick (.t 211) (.t 212) (.c (.bool false)), none, []⟩,
  ⟨some 214, .mov (.t 213), none, []⟩,
  ⟨some 215, .mov (.t 35), (some (214, true)), []⟩,
  ⟨some 216, .pick (.t 214) (.t 215) (.c (.bool false)), none, []⟩,
  ⟨some 217, .mov (.t 216), none, []⟩,
  ⟨some 218, .mov (.t 36), (some (217, true)), []⟩,
  ⟨some 219, .pick (.t 217) (.t 218) (.c (.bool false)), none, []⟩,
  ⟨some 220, .mov (.t 219), none, []⟩,
  ⟨some 221, .mov (.t 22), (some (220, true)), []⟩,
  ⟨some 222, .mov (.t 13), (some (220, true)), []⟩,
  ⟨some 223, .bin .bool .eql (.t 221) (.t 222), (some (220, true)), []⟩,
  ⟨some 224, .pick (.t 220) (.t 223) (.c (.bool false)), none, []⟩,
  ⟨some 225, .mov (.t 224), none, []⟩,
  ⟨some 226, .mov (.t 26), (some (225, true)), []⟩,
  ⟨some 227, .mov (.t 24), (some (225, true)), []⟩,
  ⟨some 228, .bin .int .eql (.t 226) (.t 227), (some (225, true)), []⟩,
  ⟨some 229, .pick (.t 225) (.t 228) (.c (.bool false)), none, []⟩,
  ⟨some 230, .mov (.t 229), none, []⟩,
  ⟨some 231, .mov (.t 32), (some (230, true)), []⟩,
  ⟨some 232, .mov (.t 28), (some (230, true)), []⟩,
  ⟨some 233, .bin .int .eql (.t 231) (.t 232), (some (230, true)), []⟩,
  ⟨some 234, .pick (.t 230) (.t 233) (.c (.bool false)), none, []⟩,
  ⟨some 6, .mov (.t 234), none, []⟩] [] false)
  (.ret))))))))))))))))))))))))))))
def tf91 : TFunc := { np := 3, nt := 235, res := [.tmp 6], own := false, body := tc91 }
noncomputable def S91_L1 (a0 : Dim) (x7 : ((List Int) × Int)) : Option (LR ((List Int) × Int) (Sum ((List Int) × (List Int) × (List Int) × Bool) Bool)) :=
  br (decide ((0 : Int) ≤ x7.2))
  (ck (decide (List.length x7.1 + List.length ([x7.2] : List Int) ≤ roomA)) <|
  bno (lookI (Dim.members a0) x7.2) fun y8 =>
  nxO (some (x7.1 ++ ([x7.2] : List Int), Member.parent y8)))
  (dnO (some (x7.1, x7.2)))
noncomputable def S91_L2 (a0 : Dim) (x29 : (Int × Int)) : Option (LR (Int × Int) (LR (Int × Int) Bool)) :=
  br (decide ((0 : Int) ≤ x29.2))
  (bno (lookI (Dim.members a0) x29.2) fun y30 =>
  nxO (some (wi (x29.1 + (1 : Int)), Member.parent y30)))
  (dnO (some (x29.1, x29.2)))
noncomputable def S91_L3 (a0 : Dim) (y1 : (Int × Int)) (x27 : (Int × Int)) : Option (LR (Int × Int) Bool) :=
  jn (σ := Bool) (α := (LR (Int × Int) Bool)) (br (decide (x27.2 < ((List.length (Dim.members a0) : Nat) : Int)))
  (inlO (some (decide (y1.2 = (0 : Int)))))
  (inlO (some false))) fun x28 =>
  br x28
  (lp (S91_L2 a0) ((0 : Int), x27.2) fun x31 =>
  jn (σ := Int) (α := (LR (Int × Int) Bool)) (br (decide (x27.1 < x31.1))
  (inlO (some x31.1))
  (inlO (some x27.1))) fun x32 =>
  nxO (some (x32, wi (x27.2 + (1 : Int)))))
  (dnO (some (x27.1, x27.2)))
noncomputable def S91 (F100 : Dim → Int → (Option (List Int))) (F101 : Dim → Int → (Option (List Int))) (F102 : Dim → Int → (Option Bool)) (F103 : Dim → Int → Int → (Option (Int × Bool))) (F104 : (List Int) → (List Int) → (Option Bool)) (F16 : Dim → Int → Int → (Option (Int × Err))) (F17 : Dim → Int → (Option ((List Int) × Err))) (F18 : Dim → Int → (Option ((List Int) × Err))) (F19 : Dim → Int → (Option ((List Int) × Err))) (F20 : Dim → Int → (Option (Bool × Err))) (F92 : Err → Int → (Option Bool)) (F95 : Dim → (Option (Int × Int))) (F99 : Dim → (Option (Int × Err))) (a0 : Dim) (a1 : Int) (a2 : Int) : Option Bool :=
  bno (F95 a0) fun y1 =>
  jn (σ := Bool) (α := Bool) (br (decide (y1.2 = (0 : Int)))
  (br (decide (a1 < (0 : Int)))
  (inlO (some true))
  (inlO (some (decide (((List.length (Dim.members a0) : Nat) : Int) ≤ a1)))))
  (inlO (some false))) fun x2 =>
  jn (σ := Int) (α := Bool) (br x2
  (inlO (some (1 : Int)))
  (inlO (some y1.2))) fun x3 =>
  jn (σ := ((List Int) × (List Int) × (List Int) × Bool)) (α := Bool) (br (decide (x3 = (0 : Int)))
  (bno (F100 a0 a1) fun y4 =>
  bno (F101 a0 a1) fun y5 =>
  bno (F102 a0 a1) fun y6 =>
  lp (S91_L1 a0) (([] : List Int), a1) fun x9 =>
  inlO (some (y4, y5, x9.1, y6)))
  (inlO (some (([] : List Int), ([] : List Int), ([] : List Int), false)))) fun x10 =>
  bno (F18 a0 a1) fun y11 =>
  bno (F92 y11.2 x3) fun y12 =>
  bno (F17 a0 a1) fun y13 =>
  bno (F92 y13.2 x3) fun y14 =>
  bno (F19 a0 a1) fun y15 =>
  bno (F92 y15.2 x3) fun y16 =>
  bno (F20 a0 a1) fun y17 =>
  bno (F92 y17.2 x3) fun y18 =>
  jn (σ := Bool) (α := Bool) (br (decide (x3 = (0 : Int)))
  (br (decide (a2 < (0 : Int)))
  (inlO (some true))
  (inlO (some (decide (((List.length (Dim.members a0) : Nat) : Int) ≤ a2)))))
  (inlO (some false))) fun x19 =>
  jn (σ := Int) (α := Bool) (br x19
  (inlO (some (1 : Int)))
  (inlO (some x3))) fun x20 =>
  jn (σ := (Int × Int)) (α := Bool) (br (decide (x20 = (0 : Int)))
  (bno (F102 a0 a2) fun y21 =>
  jn (σ := (Int × Int)) (α := (Sum (Int × Int) Bool)) (br y21
  (bno (F103 a0 a1 a2) fun y22 =>
  inlO (some (x20, y22.1)))
  (inlO (some ((3 : Int), (0 : Int))))) fun x23 =>
  inlO (some (x23.1, x23.2)))
  (inlO (some (x20, (0 : Int))))) fun x24 =>
  bno (F16 a0 a1 a2) fun y25 =>
  bno (F92 y25.2 x24.1) fun y26 =>
  lp (S91_L3 a0 y1) ((0 : Int), (0 : Int)) fun x33 =>
  bno (F99 a0) fun y34 =>
  bno (F92 y34.2 y1.2) fun y35 =>
  bno (F104 y11.1 x10.1) fun y36 =>
  bno (F104 y13.1 x10.2.1) fun y37 =>
  bno (F104 y15.1 x10.2.2.1) fun y38 =>
  jn (σ := Bool) (α := Bool) (br y12
  (br y14
  (br y16
  (br y18
  (br y26
  (br y35
  (br y36
  (br y37
  (br y38
  (br (decide (y17.1 = x10.2.2.2))
  (br (decide (y25.1 = x24.2))
  (inlO (some (decide (y34.1 = x33.1))))
  (inlO (some false)))
  (inlO (some false)))
  (inlO (some false)))
  (inlO (some false)))
  (inlO (some false)))
  (inlO (some false)))
  (inlO (some false)))
  (inlO (some false)))
  (inlO (some false)))
  (inlO (some false)))
  (inlO (some false))) fun x39 =>
  some x39
theorem s91 (F100 : Dim → Int → (Option (List Int))) (F101 : Dim → Int → (Option (List Int))) (F102 : Dim → Int → (Option Bool)) (F103 : Dim → Int → Int → (Option (Int × Bool))) (F104 : (List Int) → (List Int) → (Option Bool)) (F16 : Dim → Int → Int → (Option (Int × Err))) (F17 : Dim → Int → (Option ((List Int) × Err))) (F18 : Dim → Int → (Option ((List Int) × Err))) (F19 : Dim → Int → (Option ((List Int) × Err))) (F20 : Dim → Int → (Option (Bool × Err))) (F92 : Err → Int → (Option Bool)) (F95 : Dim → (Option (Int × Int))) (F99 : Dim → (Option (Int × Err))) (a0 : Dim) (a1 : Int) (a2 : Int) : tf91.run [⟨100, [(.st .dim), .int], (.sl .int), fun x => F100 x.1 x.2, false⟩,
  ⟨101, [(.st .dim), .int], (.sl .int), fun x => F101 x.1 x.2, false⟩,
  ⟨102, [(.st .dim), .int], .bool, fun x => F102 x.1 x.2, false⟩,
  ⟨103, [(.st .dim), .int, .int], (.tp [.int, .bool]), fun x => F103 x.1 x.2.1 x.2.2, false⟩,
  ⟨104, [(.sl .int), (.sl .int)], .bool, fun x => F104 x.1 x.2, false⟩,
  ⟨16, [(.st .dim), .int, .int], (.tp [.int, .err]), fun x => F16 x.1 x.2.1 x.2.2, false⟩,
  ⟨17, [(.st .dim), .int], (.tp [(.sl .int), .err]), fun x => F17 x.1 x.2, false⟩,
  ⟨18, [(.st .dim), .int], (.tp [(.sl .int), .err]), fun x => F18 x.1 x.2, false⟩,
  ⟨19, [(.st .dim), .int], (.tp [(.sl .int), .err]), fun x => F19 x.1 x.2, false⟩,
  ⟨20, [(.st .dim), .int], (.tp [.bool, .err]), fun x => F20 x.1 x.2, false⟩,
  ⟨92, [.err, .int], .bool, fun x => F92 x.1 x.2, false⟩,
  ⟨95, [(.st .dim)], (.tp [.int, .int]), fun x => F95 x, false⟩,
  ⟨99, [(.st .dim)], (.tp [.int, .err]), fun x => F99 x, false⟩] [(.st .dim), .int, .int] .bool (a0, a1, a2) = S91 F100 F101 F102 F103 F104 F16 F17 F18 F19 F20 F92 F95 F99 a0 a1 a2 := by kernel_rfl
noncomputable def P91 (a0 : Dim) (a1 : Int) (a2 : Int) : Option Bool := S91 P100 P101 P102 P103 P104 P16 P17 P18 P19 P20 P92 P95 P99 a0 a1 a2
noncomputable def k91 : CSpec := ⟨91, [(.st .dim), .int, .int], .bool, fun x => P91 x.1 x.2.1 x.2.2, false⟩
theorem r91 {S : Seat} (h : Ok1 S 91 tf91) (h100 : Rt S k100) (h101 : Rt S k101) (h102 : Rt S k102) (h103 : Rt S k103) (h104 : Rt S k104) (h16 : Rt S k16) (h17 : Rt S k17) (h18 : Rt S k18) (h19 : Rt S k19) (h20 : Rt S k20) (h92 : Rt S k92) (h95 : Rt S k95) (h99 : Rt S k99) : Rt S k91 := fun x y hy =>
  Ok1.sound h (C := [k100, k101, k102, k103, k104, k16, k17, k18, k19, k20, k92, k95, k99]) (CSound.cons h100 (CSound.cons h101 (CSound.cons h102 (CSound.cons h103 (CSound.cons h104 (CSound.cons h16 (CSound.cons h17 (CSound.cons h18 (CSound.cons h19 (CSound.cons h20 (CSound.cons h92 (CSound.cons h95 (CSound.cons h99 CSound.nil))))))))))))) rfl rfl rfl ((s91 P100 P101 P102 P103 P104 P16 P17 P18 P19 P20 P92 P95 P99 x.1 x.2.1 x.2.2).trans hy)

end Ab
