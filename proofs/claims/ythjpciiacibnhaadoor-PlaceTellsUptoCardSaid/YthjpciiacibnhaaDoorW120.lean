/-
  Functions of the program as typed code, what they come to, and their contracts: written by program (mk.py).
-/
import Derived.Test.YthjpciiacibnhaaDoorB2
import Derived.KernelRfl
import Derived.Test.YthjpciiacibnhaaDoorMP
import Derived.Test.YthjpciiacibnhaaDoorMP2
import Derived.Test.YthjpciiacibnhaaDoorMPr
import Derived.Test.YthjpciiacibnhaaDoorMR
import Derived.Test.YthjpciiacibnhaaDoorMR2
import Derived.Test.YthjpciiacibnhaaDoorMS
namespace Ab
open Go
set_option linter.unusedVariables false
set_option maxRecDepth 100000

/- tallyhall/tallylaw1.PlaceTells -/
def tc120 : TCode :=
  .seq (.region [
  ⟨some 4, .box (.t 0), none, []⟩,
  ⟨some 8, .mov (.c (.bool false)), none, []⟩] [] false)
  (.seq (.region [
  ⟨some 34, .load (some 1) (.t 4), none, []⟩,
  ⟨some 35, .call false [] 125 [(.t 34)], none, []⟩,
  ⟨some 9, .mov (.t 35), none, []⟩] [] false)
  (.seq (.region [
  ⟨some 36, .mov (.t 9), none, []⟩,
  ⟨some 10, .mov (.t 36), none, []⟩] [] false)
  (.seq (.seq (.region [
  ⟨some 37, .mov (.t 10), none, []⟩,
  ⟨some 38, .bin .int .eql (.t 37) (.c (.int .i64 0)), none, []⟩] [] false)
  (.condJ ⟨[.slot 10 .int], [39, 40, 41], [], []⟩ (.t 38)
    (.region [
  ⟨some 39, .load (some 1) (.t 4), none, []⟩,
  ⟨some 40, .mov (.t 1), none, []⟩,
  ⟨some 41, .call false [] 123 [(.t 39), (.t 40)], none, []⟩,
  ⟨some 10, .mov (.t 41), none, []⟩] [] false)
    (.skip)))
  (.seq (.region [
  ⟨some 42, .load (some 1) (.t 4), none, []⟩,
  ⟨some 43, .mov (.t 1), none, []⟩,
  ⟨some 44, .call false [] 114 [(.t 42), (.t 43)], none, []⟩,
  ⟨some 45, .mov (.t 10), none, []⟩,
  ⟨some 46, .call false [] 92 [(.t 44), (.t 45)], none, []⟩,
  ⟨some 11, .mov (.t 46), none, []⟩] [] false)
  (.seq (.region [
  ⟨some 12, .mov (.c (.int .i64 0)), none, []⟩] [] false)
  (.seq (.region [
  ⟨some 13, .mov (.c (.string ⟨#[]⟩)), none, []⟩] [] false)
  (.seq (.region [
  ⟨some 14, .mov (.c (.bool false)), none, []⟩] [] false)
  (.seq (.seq (.region [
  ⟨some 47, .mov (.t 10), none, []⟩,
  ⟨some 48, .bin .int .eql (.t 47) (.c (.int .i64 0)), none, []⟩] [] false)
  (.condJ ⟨[.slot 12 .int, .slot 13 .str, .slot 14 .bool], [15, 49, 50, 51, 52, 53, 54, 55, 56, 57, 58, 59, 60, 61, 62, 63, 64, 65, 66, 67, 68, 69, 70, 71, 72, 73, 74, 75, 76, 77, 78, 79], [], []⟩ (.t 48)
    (.seq (.region [
  ⟨some 49, .load (some 1) (.t 4), none, []⟩,
  ⟨some 50, .mov (.t 1), none, []⟩,
  ⟨some 51, .call false [] 140 [(.t 49), (.t 50)], none, []⟩,
  ⟨some 12, .mov (.t 51), none, []⟩] [] false)
    (.seq (.region [
  ⟨some 52, .load (some 1) (.t 4), none, []⟩,
  ⟨some 53, .mov (.t 1), none, []⟩,
  ⟨some 54, .call false [] 130 [(.t 52), (.t 53)], none, []⟩,
  ⟨some 14, .mov (.t 54), none, []⟩] [] false)
    (.seq (.region [
  ⟨some 15, .mov (.c (.int .i64 0)), none, []⟩] [] false)
    (.loop ⟨[.slot 13 .str, .slot 15 .int], [55, 56, 57, 58, 59, 60, 61, 62, 63, 64, 65, 66, 67, 68, 69, 70, 71, 72, 73, 74, 75, 76, 77, 78, 79], [], []⟩ 0 (.seq (.seq (.region [
  ⟨some 55, .mov (.t 15), none, []⟩,
  ⟨some 56, .mov (.t 1), none, []⟩,
  ⟨some 57, .len false (.t 56), none, []⟩,
  ⟨some 58, .bin .int .lss (.t 55) (.t 57), none, []⟩] [] false)
      (.cond (.t 58)
        (.skip)
        (.exit 0)))
      (.seq (.block 1 (.seq (.seq (.region [
  ⟨some 61, .mov (.t 15), none, []⟩,
  ⟨some 62, .bin .int .gtr (.t 61) (.c (.int .i64 0)), none, []⟩] [] false)
        (.condJ ⟨[.slot 13 .str], [63, 64], [], []⟩ (.t 62)
          (.region [
  ⟨some 63, .mov (.t 13), none, []⟩,
  ⟨some 64, .bin .str .add (.t 63) (.c (.string ⟨#[46]⟩)), none, []⟩,
  ⟨some 13, .mov (.t 64), none, []⟩] [] false)
          (.skip)))
        (.region [
  ⟨some 65, .mov (.t 13), none, []⟩,
  ⟨some 66, .fa 0 (.t 4), none, []⟩,
  ⟨some 67, .load none (.t 66), none, [1]⟩,
  ⟨some 68, .mov (.t 15), none, []⟩,
  ⟨some 69, .ia 3 (.t 67) (.t 68), none, [2, 3]⟩,
  ⟨some 70, .fa 2 (.t 69), none, [4]⟩,
  ⟨some 71, .load none (.t 70), none, [5]⟩,
  ⟨some 72, .mov (.t 1), none, []⟩,
  ⟨some 73, .mov (.t 15), none, []⟩,
  ⟨some 74, .ia 1 (.t 72) (.t 73), none, [7, 8]⟩,
  ⟨some 75, .load none (.t 74), none, [9]⟩,
  ⟨some 76, .ia 4 (.t 71) (.t 75), none, [6, 10]⟩,
  ⟨some 77, .fa 0 (.t 76), none, [11]⟩,
  ⟨some 78, .load none (.t 77), none, [12]⟩,
  ⟨some 79, .bin .str .add (.t 65) (.t 78), none, [0, 13]⟩,
  ⟨some 13, .mov (.t 79), none, [14, 0, 1, 2, 3, 4, 5, 6, 7, 8, 9, 10, 11, 12, 13, 14]⟩] [] true)))
      (.region [
  ⟨some 59, .mov (.t 15), none, []⟩,
  ⟨some 60, .bin .int .add (.t 59) (.c (.int .i64 1)), none, []⟩,
  ⟨some 15, .mov (.t 60), none, []⟩] [] false)))))))
    (.skip)))
  (.seq (.region [
  ⟨some 81, .load (some 1) (.t 4), none, []⟩,
  ⟨some 82, .mov (.t 1), none, []⟩,
  ⟨some 83, .call false [] 132 [(.t 81), (.t 82)], none, []⟩,
  ⟨some 80, .mov (.t 83), none, []⟩,
  ⟨some 84, .ext (.t 80) 0, none, []⟩,
  ⟨some 85, .ext (.t 80) 1, none, []⟩,
  ⟨some 16, .mov (.t 84), none, []⟩,
  ⟨some 17, .mov (.t 85), none, []⟩] [] false)
  (.seq (.region [
  ⟨some 86, .mov (.t 17), none, []⟩,
  ⟨some 87, .mov (.t 10), none, []⟩,
  ⟨some 88, .call false [] 92 [(.t 86), (.t 87)], none, []⟩,
  ⟨some 18, .mov (.t 88), none, []⟩] [] false)
  (.seq (.region [
  ⟨some 90, .load (some 1) (.t 4), none, []⟩,
  ⟨some 91, .mov (.t 1), none, []⟩,
  ⟨some 92, .call false [] 141 [(.t 90), (.t 91)], none, []⟩,
  ⟨some 89, .mov (.t 92), none, []⟩,
  ⟨some 93, .ext (.t 89) 0, none, []⟩,
  ⟨some 94, .ext (.t 89) 1, none, []⟩,
  ⟨some 19, .mov (.t 93), none, []⟩,
  ⟨some 17, .mov (.t 94), none, []⟩] [] false)
  (.seq (.region [
  ⟨some 95, .mov (.t 17), none, []⟩,
  ⟨some 96, .mov (.t 10), none, []⟩,
  ⟨some 97, .call false [] 92 [(.t 95), (.t 96)], none, []⟩,
  ⟨some 20, .mov (.t 97), none, []⟩] [] false)
  (.seq (.region [
  ⟨some 99, .load (some 1) (.t 4), none, []⟩,
  ⟨some 100, .mov (.t 1), none, []⟩,
  ⟨some 101, .call false [] 133 [(.t 99), (.t 100)], none, []⟩,
  ⟨some 98, .mov (.t 101), none, []⟩,
  ⟨some 102, .ext (.t 98) 0, none, []⟩,
  ⟨some 103, .ext (.t 98) 1, none, []⟩,
  ⟨some 21, .mov (.t 102), none, []⟩,
  ⟨some 17, .mov (.t 103), none, []⟩] [] false)
  (.seq (.region [
  ⟨some 104, .mov (.t 17), none, []⟩,
  ⟨some 105, .mov (.t 10), none, []⟩,
  ⟨some 106, .call false [] 92 [(.t 104), (.t 105)], none, []⟩,
  ⟨some 22, .mov (.t 106), none, []⟩] [] false)
  (.seq (.region [
  ⟨some 23, .mov (.c (.int .i64 0)), none, []⟩] [] false)
  (.seq (.seq (.region [
  ⟨some 107, .mov (.t 9), none, []⟩,
  ⟨some 108, .bin .int .eql (.t 107) (.c (.int .i64 0)), none, []⟩] [] false)
  (.condJ ⟨[.slot 23 .int], [109, 110], [], []⟩ (.t 108)
    (.region [
  ⟨some 109, .load (some 1) (.t 4), none, []⟩,
  ⟨some 110, .call false [] 106 [(.t 109)], none, []⟩,
  ⟨some 23, .mov (.t 110), none, []⟩] [] false)
    (.skip)))
  (.seq (.region [
  ⟨some 112, .load (some 1) (.t 4), none, []⟩,
  ⟨some 113, .call false [] 93 [(.t 112)], none, []⟩,
  ⟨some 111, .mov (.t 113), none, []⟩,
  ⟨some 114, .ext (.t 111) 0, none, []⟩,
  ⟨some 115, .ext (.t 111) 1, none, []⟩,
  ⟨some 24, .mov (.t 114), none, []⟩,
  ⟨some 17, .mov (.t 115), none, []⟩] [] false)
  (.seq (.region [
  ⟨some 116, .mov (.t 17), none, []⟩,
  ⟨some 117, .mov (.t 9), none, []⟩,
  ⟨some 118, .call false [] 92 [(.t 116), (.t 117)], none, []⟩,
  ⟨some 25, .mov (.t 118), none, []⟩] [] false)
  (.seq (.region [
  ⟨some 119, .mov (.t 9), none, []⟩,
  ⟨some 10, .mov (.t 119), none, []⟩] [] false)
  (.seq (.region [
  ⟨some 26, .mov (.c (.slice none 0 0)), none, []⟩] [] false)
  (.seq (.seq (.regionJ ⟨[.slot 130 .bool], [120, 121, 122, 123, 124, 125, 126, 127, 128, 129], [], []⟩ [
  ⟨some 120, .mov (.t 10), none, []⟩,
  ⟨some 121, .bin .int .eql (.t 120) (.c (.int .i64 0)), none, []⟩,
  ⟨some 122, .mov (.t 121), none, []⟩,
  ⟨some 123, .mov (.t 2), (some (122, true)), []⟩,
  ⟨some 124, .bin .int .lss (.t 123) (.c (.int .i64 0)), (some (122, true)), []⟩,
  ⟨some 125, .mov (.t 124), (some (122, true)), []⟩,
  ⟨some 126, .mov (.t 2), (some (125, false)), []⟩,
  ⟨some 127, .mov (.t 23), (some (125, false)), []⟩,
  ⟨some 128, .bin .int .geq (.t 126) (.t 127), (some (125, false)), []⟩,
  ⟨some 129, .pick (.t 125) (.c (.bool true)) (.t 128), (some (122, true)), []⟩,
  ⟨some 130, .pick (.t 122) (.t 129) (.c (.bool false)), none, []⟩] [] false)
  (.condJ ⟨[.slot 10 .int, .slot 26 (.sl .int)], [131, 132, 133, 134, 135], [], []⟩ (.t 130)
    (.region [
  ⟨some 10, .mov (.c (.int .i64 1)), none, []⟩] [] false)
    (.seq (.region [
  ⟨some 131, .mov (.t 10), none, []⟩,
  ⟨some 132, .bin .int .eql (.t 131) (.c (.int .i64 0)), none, []⟩] [] false)
    (.condJ ⟨[.slot 26 (.sl .int)], [133, 134, 135], [], []⟩ (.t 132)
      (.region [
  ⟨some 133, .load (some 1) (.t 4), none, []⟩,
  ⟨some 134, .mov (.t 2), none, []⟩,
  ⟨some 135, .call true [] 142 [(.t 133), (.t 134)], none, []⟩,
  ⟨some 26, .mov (.t 135), none, []⟩] [] false)
      (.skip)))))
  (.seq (.region [
  ⟨some 137, .load (some 1) (.t 4), none, []⟩,
  ⟨some 138, .mov (.t 2), none, []⟩,
  ⟨some 139, .call true [] 98 [(.t 137), (.t 138)], none, []⟩,
  ⟨some 136, .mov (.t 139), none, []⟩,
  ⟨some 140, .ext (.t 136) 0, none, []⟩,
  ⟨some 141, .ext (.t 136) 1, none, []⟩,
  ⟨some 27, .mov (.t 140), none, []⟩,
  ⟨some 17, .mov (.t 141), none, []⟩] [] false)
  (.seq (.region [
  ⟨some 142, .mov (.t 17), none, []⟩,
  ⟨some 143, .mov (.t 10), none, []⟩,
  ⟨some 144, .call false [] 92 [(.t 142), (.t 143)], none, []⟩,
  ⟨some 28, .mov (.t 144), none, []⟩] [] false)
  (.seq (.region [
  ⟨some 145, .mov (.t 27), none, []⟩,
  ⟨some 146, .mov (.t 26), none, []⟩,
  ⟨some 147, .call false [] 28 [(.t 145), (.t 146)], none, []⟩,
  ⟨some 29, .mov (.t 147), none, []⟩] [] false)
  (.seq (.region [
  ⟨some 30, .mov (.c (.slice none 0 0)), none, []⟩] [] false)
  (.seq (.seq (.region [
  ⟨some 148, .mov (.t 9), none, []⟩,
  ⟨some 149, .bin .int .eql (.t 148) (.c (.int .i64 0)), none, []⟩] [] false)
  (.condJ ⟨[.slot 9 .int, .slot 30 (.sl .int)], [150, 151, 152, 153, 154, 155], [], []⟩ (.t 149)
    (.region [
  ⟨some 151, .load (some 1) (.t 4), none, []⟩,
  ⟨some 152, .mov (.t 3), none, []⟩,
  ⟨some 153, .call true [] 143 [(.t 151), (.t 152)], none, []⟩,
  ⟨some 150, .mov (.t 153), none, []⟩,
  ⟨some 154, .ext (.t 150) 0, none, []⟩,
  ⟨some 155, .ext (.t 150) 1, none, []⟩,
  ⟨some 30, .mov (.t 154), none, []⟩,
  ⟨some 9, .mov (.t 155), none, []⟩] [] false)
    (.skip)))
  (.seq (.region [
  ⟨some 157, .load (some 1) (.t 4), none, []⟩,
  ⟨some 158, .mov (.t 3), none, []⟩,
  ⟨some 159, .call true [] 131 [(.t 157), (.t 158)], none, []⟩,
  ⟨some 156, .mov (.t 159), none, []⟩,
  ⟨some 160, .ext (.t 156) 0, none, []⟩,
  ⟨some 161, .ext (.t 156) 1, none, []⟩,
  ⟨some 31, .mov (.t 160), none, []⟩,
  ⟨some 17, .mov (.t 161), none, []⟩] [] false)
  (.seq (.region [
  ⟨some 162, .mov (.t 17), none, []⟩,
  ⟨some 163, .mov (.t 9), none, []⟩,
  ⟨some 164, .call false [] 92 [(.t 162), (.t 163)], none, []⟩,
  ⟨some 32, .mov (.t 164), none, []⟩] [] false)
  (.seq (.region [
  ⟨some 165, .mov (.t 31), none, []⟩,
  ⟨some 166, .mov (.t 30), none, []⟩,
  ⟨some 167, .call false [] 28 [(.t 165), (.t 166)], none, []⟩,
  ⟨some 33, .mov (.t 167), none, []⟩] [] false)
  (.seq (.regionJ ⟨[.slot 8 .bool], [168, 169, 170, 171, 172, 173, 174, 175, 176, 177, 178, 179, 180, 181, 182, 183, 184, 185, 186, 187, 188, 189, 190, 191, 192, 193, 194, 195, 196, 197, 198, 199, 200, 201, 202, 203, 204, 205, 206, 207, 208, 209, 210, 211, 212], [], []⟩ [
  ⟨some 168, .mov (.t 11), none, []⟩,
  ⟨some 169, .mov (.t 168), none, []⟩,
  ⟨some 170, .mov (.t 18), (some (169, true)), []⟩,
  ⟨some 171, .pick (.t 169) (.t 170) (.c (.bool false)), none, []⟩,
  ⟨some 172, .mov (.t 171), none, []⟩,
  ⟨some 173, .mov (.t 20), (some (172, true)), []⟩,
  ⟨some 174, .pick (.t 172) (.t 173) (.c (.bool false)), none, []⟩,
  ⟨some 175, .mov (.t 174), none, []⟩,
  ⟨some 176, .mov (.t 22), (some (175, true)), []⟩,
  ⟨some 177, .pick (.t 175) (.t 176) (.c (.bool false)), none, []⟩,
  ⟨some 178, .mov (.t 177), none, []⟩,
  ⟨some 179, .mov (.t 25), (some (178, true)), []⟩,
  ⟨some 180, .pick (.t 178) (.t 179) (.c (.bool false)), none, []⟩,
  ⟨some 181, .mov (.t 180), none, []⟩,
  ⟨some 182, .mov (.t 28), (some (181, true)), []⟩,
  ⟨some 183, .pick (.t 181) (.t 182) (.c (.bool false)), none, []⟩,
  ⟨some 184, .mov (.t 183), none, []⟩,
  ⟨some 185, .mov (.t 32), (some (184, true)), []⟩,
  ⟨some 186, .pick (.t 184) (.t 185) (.c (.bool false)), none, []⟩,
  ⟨some 187, .mov (.t 186), none, []⟩,
  ⟨some 188, .mov (.t 29), (some (187, true)), []⟩,
  ⟨some 189, .pick (.t 187) (.t 188) (.c (.bool false)), none, []⟩,
  ⟨some 190, .mov (.t 189), none, []⟩,
  ⟨some 191, .mov (.t 33), (some (190, true)), []⟩,
  ⟨some 192, .pick (.t 190) (.t 191) (.c (.bool false)), none, []⟩,
  ⟨some 193, .mov (.t 192), none, []⟩,
  ⟨some 194, .mov (.t 16), (some (193, true)), []⟩,
  ⟨some 195, .mov (.t 12), (some (193, true)), []⟩,
  ⟨some 196, .bin .int .eql (.t 194) (.t 195), (some (193, true)), []⟩,
  ⟨some 197, .pick (.t 193) (.t 196) (.c (.bool false)), none, []⟩,
  ⟨some 198, .mov (.t 197), none, []⟩,
  ⟨some 199, .mov (.t 19), (some (198, true)), []⟩,
  ⟨some 200, .mov (.t 14), (some (198, true)), []⟩,
  ⟨some 201, .bin .bool .eql (.t 199) (.t 200), (some (198, true)), []⟩,
  ⟨some 202, .pick (.t 198) (.t 201) (.c (.bool false)), none, []⟩,
  ⟨some 203, .mov (.t 202), none, []⟩,
  ⟨some 204, .mov (.t 21), (some (203, true)), []⟩,
  ⟨some 205, .mov (.t 13), (some (203, true)), []⟩,
  ⟨some 206, .bin .str .eql (.t 204) (.t 205), (some (203, true)), []⟩,
  ⟨some 207, .pick (.t 203) (.t 206) (.c (.bool false)), none, []⟩,
  ⟨some 208, .mov (.t 207), none, []⟩,
  ⟨some 209, .mov (.t 24), (some (208, true)), []⟩,
  ⟨some 210, .mov (.t 23), (some (208, true)), []⟩,
  ⟨some 211, .bin .int .eql (.t 209) (.t 210), (some (208, true)), []⟩,
  ⟨some 212, .pick (.t 208) (.t 211) (.c (.bool false)), none, []⟩,
  ⟨some 8, .mov (.t 212), none, []⟩] [] false)
  (.ret)))))))))))))))))))))))))))))))
def tf120 : TFunc := { np := 4, nt := 213, res := [.tmp 8], own := false, body := tc120 }
noncomputable def S120_L1 (a0 : (List Dim)) (a1 : (List Int)) (x8 : (ByteArray × Int)) : Option (LR (ByteArray × Int) (Sum (Int × ByteArray × Bool) Bool)) :=
  br (decide (x8.2 < ((List.length a1 : Nat) : Int)))
  (jn (σ := ByteArray) (α := (LR (ByteArray × Int) (Sum (Int × ByteArray × Bool) Bool))) (br (decide ((0 : Int) < x8.2))
  (ck (decide (ByteArray.size x8.1 + ByteArray.size (⟨#[46]⟩ : ByteArray) ≤ 9223372036854775807)) <|
  inlO (some (x8.1 ++ (⟨#[46]⟩ : ByteArray))))
  (inlO (some x8.1))) fun x9 =>
  bno (lookI a0 x8.2) fun y10 =>
  bno (lookI a1 x8.2) fun y11 =>
  bno (lookI (Dim.members y10) y11) fun y12 =>
  ck (decide (ByteArray.size x9 + ByteArray.size (Member.name y12) ≤ 9223372036854775807)) <|
  nxO (some (x9 ++ (Member.name y12), wi (x8.2 + (1 : Int)))))
  (dnO (some (x8.1, x8.2)))
noncomputable def S120 (F106 : (List Dim) → (Option Int)) (F114 : (List Dim) → (List Int) → (Option Err)) (F123 : (List Dim) → (List Int) → (Option Int)) (F125 : (List Dim) → (Option Int)) (F130 : (List Dim) → (List Int) → (Option Bool)) (F131 : (List Dim) → ByteArray → (Option ((List Int) × Err))) (F132 : (List Dim) → (List Int) → (Option (Int × Err))) (F133 : (List Dim) → (List Int) → (Option (ByteArray × Err))) (F140 : (List Dim) → (List Int) → (Option Int)) (F141 : (List Dim) → (List Int) → (Option (Bool × Err))) (F142 : (List Dim) → Int → (Option (List Int))) (F143 : (List Dim) → ByteArray → (Option ((List Int) × Int))) (F28 : (List Int) → (List Int) → (Option Bool)) (F92 : Err → Int → (Option Bool)) (F93 : (List Dim) → (Option (Int × Err))) (F98 : (List Dim) → Int → (Option ((List Int) × Err))) (a0 : (List Dim)) (a1 : (List Int)) (a2 : Int) (a3 : ByteArray) : Option Bool :=
  bno (F125 a0) fun y1 =>
  jn (σ := Int) (α := Bool) (br (decide (y1 = (0 : Int)))
  (bno (F123 a0 a1) fun y2 =>
  inlO (some y2))
  (inlO (some y1))) fun x3 =>
  bno (F114 a0 a1) fun y4 =>
  bno (F92 y4 x3) fun y5 =>
  jn (σ := (Int × ByteArray × Bool)) (α := Bool) (br (decide (x3 = (0 : Int)))
  (bno (F140 a0 a1) fun y6 =>
  bno (F130 a0 a1) fun y7 =>
  lp (S120_L1 a0 a1) ((⟨#[]⟩ : ByteArray), (0 : Int)) fun x13 =>
  inlO (some (y6, x13.1, y7)))
  (inlO (some ((0 : Int), (⟨#[]⟩ : ByteArray), false)))) fun x14 =>
  bno (F132 a0 a1) fun y15 =>
  bno (F92 y15.2 x3) fun y16 =>
  bno (F141 a0 a1) fun y17 =>
  bno (F92 y17.2 x3) fun y18 =>
  bno (F133 a0 a1) fun y19 =>
  bno (F92 y19.2 x3) fun y20 =>
  jn (σ := Int) (α := Bool) (br (decide (y1 = (0 : Int)))
  (bno (F106 a0) fun y21 =>
  inlO (some y21))
  (inlO (some (0 : Int)))) fun x22 =>
  bno (F93 a0) fun y23 =>
  bno (F92 y23.2 y1) fun y24 =>
  jn (σ := Bool) (α := Bool) (br (decide (y1 = (0 : Int)))
  (br (decide (a2 < (0 : Int)))
  (inlO (some true))
  (inlO (some (decide (x22 ≤ a2)))))
  (inlO (some false))) fun x25 =>
  jn (σ := (Int × (List Int))) (α := Bool) (br x25
  (inlO (some ((1 : Int), ([] : List Int))))
  (jn (σ := (List Int)) (α := (Sum (Int × (List Int)) Bool)) (br (decide (y1 = (0 : Int)))
  (bno (F142 a0 a2) fun y26 =>
  inlO (some y26))
  (inlO (some ([] : List Int)))) fun x27 =>
  inlO (some (y1, x27)))) fun x28 =>
  bno (F98 a0 a2) fun y29 =>
  bno (F92 y29.2 x28.1) fun y30 =>
  bno (F28 y29.1 x28.2) fun y31 =>
  jn (σ := (Int × (List Int))) (α := Bool) (br (decide (y1 = (0 : Int)))
  (bno (F143 a0 a3) fun y32 =>
  inlO (some (y32.2, y32.1)))
  (inlO (some (y1, ([] : List Int))))) fun x33 =>
  bno (F131 a0 a3) fun y34 =>
  bno (F92 y34.2 x33.1) fun y35 =>
  bno (F28 y34.1 x33.2) fun y36 =>
  jn (σ := Bool) (α := Bool) (br y5
  (br y16
  (br y18
  (br y20
  (br y24
  (br y30
  (br y35
  (br y31
  (br y36
  (br (decide (y15.1 = x14.1))
  (br (decide (y17.1 = x14.2.2))
  (br (decide (y19.1 = x14.2.1))
  (inlO (some (decide (y23.1 = x22))))
  (inlO (some false)))
  (inlO (some false)))
  (inlO (some false)))
  (inlO (some false)))
  (inlO (some false)))
  (inlO (some false)))
  (inlO (some false)))
  (inlO (some false)))
  (inlO (some false)))
  (inlO (some false)))
  (inlO (some false)))
  (inlO (some false))) fun x37 =>
  some x37
theorem s120 (F106 : (List Dim) → (Option Int)) (F114 : (List Dim) → (List Int) → (Option Err)) (F123 : (List Dim) → (List Int) → (Option Int)) (F125 : (List Dim) → (Option Int)) (F130 : (List Dim) → (List Int) → (Option Bool)) (F131 : (List Dim) → ByteArray → (Option ((List Int) × Err))) (F132 : (List Dim) → (List Int) → (Option (Int × Err))) (F133 : (List Dim) → (List Int) → (Option (ByteArray × Err))) (F140 : (List Dim) → (List Int) → (Option Int)) (F141 : (List Dim) → (List Int) → (Option (Bool × Err))) (F142 : (List Dim) → Int → (Option (List Int))) (F143 : (List Dim) → ByteArray → (Option ((List Int) × Int))) (F28 : (List Int) → (List Int) → (Option Bool)) (F92 : Err → Int → (Option Bool)) (F93 : (List Dim) → (Option (Int × Err))) (F98 : (List Dim) → Int → (Option ((List Int) × Err))) (a0 : (List Dim)) (a1 : (List Int)) (a2 : Int) (a3 : ByteArray) : tf120.run [⟨106, [(.st .outl)], .int, fun x => F106 x, false, []⟩,
  ⟨114, [(.st .outl), (.sl .int)], .err, fun x => F114 x.1 x.2, false, []⟩,
  ⟨123, [(.st .outl), (.sl .int)], .int, fun x => F123 x.1 x.2, false, []⟩,
  ⟨125, [(.st .outl)], .int, fun x => F125 x, false, []⟩,
  ⟨130, [(.st .outl), (.sl .int)], .bool, fun x => F130 x.1 x.2, false, []⟩,
  ⟨131, [(.st .outl), .str], (.tp [(.sl .int), .err]), fun x => F131 x.1 x.2, false, []⟩,
  ⟨132, [(.st .outl), (.sl .int)], (.tp [.int, .err]), fun x => F132 x.1 x.2, false, []⟩,
  ⟨133, [(.st .outl), (.sl .int)], (.tp [.str, .err]), fun x => F133 x.1 x.2, false, []⟩,
  ⟨140, [(.st .outl), (.sl .int)], .int, fun x => F140 x.1 x.2, false, []⟩,
  ⟨141, [(.st .outl), (.sl .int)], (.tp [.bool, .err]), fun x => F141 x.1 x.2, false, []⟩,
  ⟨142, [(.st .outl), .int], (.sl .int), fun x => F142 x.1 x.2, false, []⟩,
  ⟨143, [(.st .outl), .str], (.tp [(.sl .int), .int]), fun x => F143 x.1 x.2, false, []⟩,
  ⟨28, [(.sl .int), (.sl .int)], .bool, fun x => F28 x.1 x.2, false, []⟩,
  ⟨92, [.err, .int], .bool, fun x => F92 x.1 x.2, false, []⟩,
  ⟨93, [(.st .outl)], (.tp [.int, .err]), fun x => F93 x, false, []⟩,
  ⟨98, [(.st .outl), .int], (.tp [(.sl .int), .err]), fun x => F98 x.1 x.2, false, []⟩] [(.st .outl), (.sl .int), .int, .str] .bool (a0, a1, a2, a3) = S120 F106 F114 F123 F125 F130 F131 F132 F133 F140 F141 F142 F143 F28 F92 F93 F98 a0 a1 a2 a3 := by kernel_rfl
noncomputable def P120 (a0 : (List Dim)) (a1 : (List Int)) (a2 : Int) (a3 : ByteArray) : Option Bool := S120 P106 P114 P123 P125 P130 P131 P132 P133 P140 P141 P142 P143 P28 P92 P93 P98 a0 a1 a2 a3
noncomputable def k120 : CSpec := ⟨120, [(.st .outl), (.sl .int), .int, .str], .bool, fun x => P120 x.1 x.2.1 x.2.2.1 x.2.2.2, false, []⟩
theorem r120 {S : Seat} (h : Ok1 S 120 tf120) (h106 : Rt S k106) (h114 : Rt S k114) (h123 : Rt S k123) (h125 : Rt S k125) (h130 : Rt S k130) (h131 : Rt S k131) (h132 : Rt S k132) (h133 : Rt S k133) (h140 : Rt S k140) (h141 : Rt S k141) (h142 : Rt S k142) (h143 : Rt S k143) (h28 : Rt S k28) (h92 : Rt S k92) (h93 : Rt S k93) (h98 : Rt S k98) : Rt S k120 := fun x y hy =>
  Ok1.sound h (C := [k106, k114, k123, k125, k130, k131, k132, k133, k140, k141, k142, k143, k28, k92, k93, k98]) (CSound.cons h106 (CSound.cons h114 (CSound.cons h123 (CSound.cons h125 (CSound.cons h130 (CSound.cons h131 (CSound.cons h132 (CSound.cons h133 (CSound.cons h140 (CSound.cons h141 (CSound.cons h142 (CSound.cons h143 (CSound.cons h28 (CSound.cons h92 (CSound.cons h93 (CSound.cons h98 CSound.nil)))))))))))))))) rfl rfl rfl ((s120 P106 P114 P123 P125 P130 P131 P132 P133 P140 P141 P142 P143 P28 P92 P93 P98 x.1 x.2.1 x.2.2.1 x.2.2.2).trans hy) rfl

end Ab
