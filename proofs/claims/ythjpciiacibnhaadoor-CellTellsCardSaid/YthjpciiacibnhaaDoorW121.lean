/-
  Functions of the program as typed code, what they come to, and their contracts: written by program (mk.py).
-/
import Derived.Test.YthjpciiacibnhaaDoorB2
import Derived.KernelRfl
import Derived.Test.YthjpciiacibnhaaDoorMC
import Derived.Test.YthjpciiacibnhaaDoorMCe
import Derived.Test.YthjpciiacibnhaaDoorMRc
import Derived.Test.YthjpciiacibnhaaDoorMS
namespace Ab
open Go
set_option linter.unusedVariables false
set_option maxRecDepth 100000

/- tallyhall/tallylaw1.CellTells -/
def tc121 : TCode :=
  .seq (.region [
  ⟨some 4, .box (.t 0), none, []⟩,
  ⟨some 5, .box (.t 1), none, []⟩,
  ⟨some 8, .mov (.c (.bool false)), none, []⟩] [] false)
  (.seq (.region [
  ⟨some 30, .load (some 2) (.t 4), none, []⟩,
  ⟨some 31, .call false [] 144 [(.t 30)], none, []⟩,
  ⟨some 9, .mov (.t 31), none, []⟩] [] false)
  (.seq (.region [
  ⟨some 32, .load (some 2) (.t 4), none, []⟩,
  ⟨some 33, .call false [] 52 [(.t 32)], none, []⟩,
  ⟨some 34, .mov (.t 9), none, []⟩,
  ⟨some 35, .call false [] 92 [(.t 33), (.t 34)], none, []⟩,
  ⟨some 10, .mov (.t 35), none, []⟩] [] false)
  (.seq (.region [
  ⟨some 11, .mov (.c (.string ⟨#[]⟩)), none, []⟩] [] false)
  (.seq (.seq (.region [
  ⟨some 36, .mov (.t 9), none, []⟩,
  ⟨some 37, .bin .int .eql (.t 36) (.c (.int .i64 0)), none, []⟩] [] false)
  (.condJ ⟨[.slot 11 .str], [38, 39], [], []⟩ (.t 37)
    (.region [
  ⟨some 38, .load (some 2) (.t 4), none, []⟩,
  ⟨some 39, .call false [] 145 [(.t 38)], none, []⟩,
  ⟨some 11, .mov (.t 39), none, []⟩] [] false)
    (.skip)))
  (.seq (.region [
  ⟨some 41, .load (some 2) (.t 4), none, []⟩,
  ⟨some 42, .call false [] 139 [(.t 41)], none, []⟩,
  ⟨some 40, .mov (.t 42), none, []⟩,
  ⟨some 43, .ext (.t 40) 0, none, []⟩,
  ⟨some 44, .ext (.t 40) 1, none, []⟩,
  ⟨some 12, .mov (.t 43), none, []⟩,
  ⟨some 13, .mov (.t 44), none, []⟩] [] false)
  (.seq (.region [
  ⟨some 45, .mov (.t 13), none, []⟩,
  ⟨some 46, .mov (.t 9), none, []⟩,
  ⟨some 47, .call false [] 92 [(.t 45), (.t 46)], none, []⟩,
  ⟨some 14, .mov (.t 47), none, []⟩] [] false)
  (.seq (.seq (.region [
  ⟨some 48, .mov (.t 9), none, []⟩,
  ⟨some 49, .bin .int .eql (.t 48) (.c (.int .i64 0)), none, []⟩] [] false)
  (.condJ ⟨[.slot 9 .int], [50, 51], [], []⟩ (.t 49)
    (.region [
  ⟨some 50, .load (some 2) (.t 5), none, []⟩,
  ⟨some 51, .call false [] 144 [(.t 50)], none, []⟩,
  ⟨some 9, .mov (.t 51), none, []⟩] [] false)
    (.skip)))
  (.seq (.region [
  ⟨some 15, .alloc [.int .i64 0, .int .i64 0], none, []⟩,
  ⟨some 16, .alloc [.int .i64 0, .int .i64 0], none, []⟩,
  ⟨some 17, .alloc [.int .i64 0, .int .i64 0], none, []⟩,
  ⟨some 18, .alloc [.int .i64 0, .int .i64 0], none, []⟩] [] false)
  (.seq (.seq (.region [
  ⟨some 52, .mov (.t 9), none, []⟩,
  ⟨some 53, .bin .int .eql (.t 52) (.c (.int .i64 0)), none, []⟩] [] false)
  (.condJ ⟨[.var 15 [.sh .int, .sh .int], .var 16 [.sh .int, .sh .int], .var 17 [.sh .int, .sh .int], .var 18 [.sh .int, .sh .int]], [54, 55, 56, 57, 58, 59, 60, 61, 62, 63, 64, 65], [], []⟩ (.t 53)
    (.seq (.region [
  ⟨some 54, .load (some 2) (.t 4), none, []⟩,
  ⟨some 55, .load (some 2) (.t 5), none, []⟩,
  ⟨some 56, .call false [] 146 [(.t 54), (.t 55), (.c (.int .i64 1))], none, []⟩,
  ⟨none, .store 2 (.t 15) (.t 56), none, []⟩] [] false)
    (.seq (.region [
  ⟨some 57, .load (some 2) (.t 4), none, []⟩,
  ⟨some 58, .load (some 2) (.t 5), none, []⟩,
  ⟨some 59, .call false [] 146 [(.t 57), (.t 58), (.c (.int .i64 (-1)))], none, []⟩,
  ⟨none, .store 2 (.t 16) (.t 59), none, []⟩] [] false)
    (.seq (.region [
  ⟨some 60, .load (some 2) (.t 4), none, []⟩,
  ⟨some 61, .load (some 2) (.t 5), none, []⟩,
  ⟨some 62, .call false [] 147 [(.t 60), (.t 61)], none, []⟩,
  ⟨none, .store 2 (.t 17) (.t 62), none, []⟩] [] false)
    (.region [
  ⟨some 63, .load (some 2) (.t 4), none, []⟩,
  ⟨some 64, .load (some 2) (.t 5), none, []⟩,
  ⟨some 65, .call false [] 148 [(.t 63), (.t 64)], none, []⟩,
  ⟨none, .store 2 (.t 18) (.t 65), none, []⟩] [] false))))
    (.skip)))
  (.seq (.region [
  ⟨some 67, .load (some 2) (.t 4), none, []⟩,
  ⟨some 68, .load (some 2) (.t 5), none, []⟩,
  ⟨some 69, .call false [] 9 [(.t 67), (.t 68)], none, []⟩,
  ⟨some 66, .mov (.t 69), none, []⟩,
  ⟨some 70, .ext (.t 66) 0, none, []⟩,
  ⟨some 71, .ext (.t 66) 1, none, []⟩,
  ⟨some 19, .alloc [.int .i64 0, .int .i64 0], none, []⟩,
  ⟨none, .store 2 (.t 19) (.t 70), none, []⟩,
  ⟨some 13, .mov (.t 71), none, []⟩] [] false)
  (.seq (.region [
  ⟨some 72, .mov (.t 13), none, []⟩,
  ⟨some 73, .mov (.t 9), none, []⟩,
  ⟨some 74, .call false [] 92 [(.t 72), (.t 73)], none, []⟩,
  ⟨some 20, .mov (.t 74), none, []⟩] [] false)
  (.seq (.region [
  ⟨some 76, .load (some 2) (.t 4), none, []⟩,
  ⟨some 77, .load (some 2) (.t 5), none, []⟩,
  ⟨some 78, .call false [] 12 [(.t 76), (.t 77)], none, []⟩,
  ⟨some 75, .mov (.t 78), none, []⟩,
  ⟨some 79, .ext (.t 75) 0, none, []⟩,
  ⟨some 80, .ext (.t 75) 1, none, []⟩,
  ⟨some 21, .alloc [.int .i64 0, .int .i64 0], none, []⟩,
  ⟨none, .store 2 (.t 21) (.t 79), none, []⟩,
  ⟨some 13, .mov (.t 80), none, []⟩] [] false)
  (.seq (.region [
  ⟨some 81, .mov (.t 13), none, []⟩,
  ⟨some 82, .mov (.t 9), none, []⟩,
  ⟨some 83, .call false [] 92 [(.t 81), (.t 82)], none, []⟩,
  ⟨some 22, .mov (.t 83), none, []⟩] [] false)
  (.seq (.region [
  ⟨some 85, .load (some 2) (.t 4), none, []⟩,
  ⟨some 86, .load (some 2) (.t 5), none, []⟩,
  ⟨some 87, .call false [] 10 [(.t 85), (.t 86)], none, []⟩,
  ⟨some 84, .mov (.t 87), none, []⟩,
  ⟨some 88, .ext (.t 84) 0, none, []⟩,
  ⟨some 89, .ext (.t 84) 1, none, []⟩,
  ⟨some 23, .alloc [.int .i64 0, .int .i64 0], none, []⟩,
  ⟨none, .store 2 (.t 23) (.t 88), none, []⟩,
  ⟨some 13, .mov (.t 89), none, []⟩] [] false)
  (.seq (.region [
  ⟨some 90, .mov (.t 13), none, []⟩,
  ⟨some 91, .mov (.t 9), none, []⟩,
  ⟨some 92, .call false [] 92 [(.t 90), (.t 91)], none, []⟩,
  ⟨some 24, .mov (.t 92), none, []⟩] [] false)
  (.seq (.region [
  ⟨some 94, .load (some 2) (.t 4), none, []⟩,
  ⟨some 95, .load (some 2) (.t 5), none, []⟩,
  ⟨some 96, .call false [] 11 [(.t 94), (.t 95)], none, []⟩,
  ⟨some 93, .mov (.t 96), none, []⟩,
  ⟨some 97, .ext (.t 93) 0, none, []⟩,
  ⟨some 98, .ext (.t 93) 1, none, []⟩,
  ⟨some 25, .alloc [.int .i64 0, .int .i64 0], none, []⟩,
  ⟨none, .store 2 (.t 25) (.t 97), none, []⟩,
  ⟨some 13, .mov (.t 98), none, []⟩] [] false)
  (.seq (.region [
  ⟨some 99, .mov (.t 13), none, []⟩,
  ⟨some 100, .mov (.t 9), none, []⟩,
  ⟨some 101, .call false [] 92 [(.t 99), (.t 100)], none, []⟩,
  ⟨some 26, .mov (.t 101), none, []⟩] [] false)
  (.seq (.region [
  ⟨some 103, .mov (.t 3), none, []⟩,
  ⟨some 104, .call false [] 149 [(.t 103)], none, []⟩,
  ⟨some 102, .mov (.t 104), none, []⟩,
  ⟨some 105, .ext (.t 102) 0, none, []⟩,
  ⟨some 106, .ext (.t 102) 1, none, []⟩,
  ⟨some 27, .alloc [.int .i64 0, .int .i64 0], none, []⟩,
  ⟨none, .store 2 (.t 27) (.t 105), none, []⟩,
  ⟨some 9, .mov (.t 106), none, []⟩] [] false)
  (.seq (.region [
  ⟨some 108, .mov (.t 3), none, []⟩,
  ⟨some 109, .call false [] 138 [(.t 108)], none, []⟩,
  ⟨some 107, .mov (.t 109), none, []⟩,
  ⟨some 110, .ext (.t 107) 0, none, []⟩,
  ⟨some 111, .ext (.t 107) 1, none, []⟩,
  ⟨some 28, .alloc [.int .i64 0, .int .i64 0], none, []⟩,
  ⟨none, .store 2 (.t 28) (.t 110), none, []⟩,
  ⟨some 13, .mov (.t 111), none, []⟩] [] false)
  (.seq (.region [
  ⟨some 112, .mov (.t 13), none, []⟩,
  ⟨some 113, .mov (.t 9), none, []⟩,
  ⟨some 114, .call false [] 92 [(.t 112), (.t 113)], none, []⟩,
  ⟨some 29, .mov (.t 114), none, []⟩] [] false)
  (.seq (.regionJ ⟨[.slot 8 .bool], [115, 116, 117, 118, 119, 120, 121, 122, 123, 124, 125, 126, 127, 128, 129, 130, 131, 132, 133, 134, 135, 136, 137, 138, 139, 140, 141, 142, 143, 144, 145, 146, 147, 148, 149, 150, 151, 152, 153, 154, 155, 156, 157, 158, 159, 160, 161, 162, 163, 164, 165, 166, 167, 168, 169, 170], [], []⟩ [
  ⟨some 115, .mov (.t 10), none, []⟩,
  ⟨some 116, .mov (.t 115), none, []⟩,
  ⟨some 117, .mov (.t 14), (some (116, true)), []⟩,
  ⟨some 118, .pick (.t 116) (.t 117) (.c (.bool false)), none, []⟩,
  ⟨some 119, .mov (.t 118), none, []⟩,
  ⟨some 120, .mov (.t 20), (some (119, true)), []⟩,
  ⟨some 121, .pick (.t 119) (.t 120) (.c (.bool false)), none, []⟩,
  ⟨some 122, .mov (.t 121), none, []⟩,
  ⟨some 123, .mov (.t 22), (some (122, true)), []⟩,
  ⟨some 124, .pick (.t 122) (.t 123) (.c (.bool false)), none, []⟩,
  ⟨some 125, .mov (.t 124), none, []⟩,
  ⟨some 126, .mov (.t 24), (some (125, true)), []⟩,
  ⟨some 127, .pick (.t 125) (.t 126) (.c (.bool false)), none, []⟩,
  ⟨some 128, .mov (.t 127), none, []⟩,
  ⟨some 129, .mov (.t 26), (some (128, true)), []⟩,
  ⟨some 130, .pick (.t 128) (.t 129) (.c (.bool false)), none, []⟩,
  ⟨some 131, .mov (.t 130), none, []⟩,
  ⟨some 132, .mov (.t 29), (some (131, true)), []⟩,
  ⟨some 133, .pick (.t 131) (.t 132) (.c (.bool false)), none, []⟩,
  ⟨some 134, .mov (.t 133), none, []⟩,
  ⟨some 135, .mov (.t 12), (some (134, true)), []⟩,
  ⟨some 136, .mov (.t 11), (some (134, true)), []⟩,
  ⟨some 137, .bin .str .eql (.t 135) (.t 136), (some (134, true)), []⟩,
  ⟨some 138, .pick (.t 134) (.t 137) (.c (.bool false)), none, []⟩,
  ⟨some 139, .mov (.t 138), none, []⟩,
  ⟨some 140, .load (some 2) (.t 19), (some (139, true)), []⟩,
  ⟨some 141, .load (some 2) (.t 15), (some (139, true)), []⟩,
  ⟨some 142, .eqa false [(0, .int), (1, .int)] (.t 140) (.t 141), (some (139, true)), []⟩,
  ⟨some 143, .pick (.t 139) (.t 142) (.c (.bool false)), none, []⟩,
  ⟨some 144, .mov (.t 143), none, []⟩,
  ⟨some 145, .load (some 2) (.t 21), (some (144, true)), []⟩,
  ⟨some 146, .load (some 2) (.t 16), (some (144, true)), []⟩,
  ⟨some 147, .eqa false [(0, .int), (1, .int)] (.t 145) (.t 146), (some (144, true)), []⟩,
  ⟨some 148, .pick (.t 144) (.t 147) (.c (.bool false)), none, []⟩,
  ⟨some 149, .mov (.t 148), none, []⟩,
  ⟨some 150, .load (some 2) (.t 23), (some (149, true)), []⟩,
  ⟨some 151, .load (some 2) (.t 17), (some (149, true)), []⟩,
  ⟨some 152, .eqa false [(0, .int), (1, .int)] (.t 150) (.t 151), (some (149, true)), []⟩,
  ⟨some 153, .pick (.t 149) (.t 152) (.c (.bool false)), none, []⟩,
  ⟨some 154, .mov (.t 153), none, []⟩,
  ⟨some 155, .load (some 2) (.t 25), (some (154, true)), []⟩,
  ⟨some 156, .load (some 2) (.t 18), (some (154, true)), []⟩,
  ⟨some 157, .eqa false [(0, .int), (1, .int)] (.t 155) (.t 156), (some (154, true)), []⟩,
  ⟨some 158, .pick (.t 154) (.t 157) (.c (.bool false)), none, []⟩,
  ⟨some 159, .mov (.t 158), none, []⟩,
  ⟨some 160, .load (some 2) (.t 28), (some (159, true)), []⟩,
  ⟨some 161, .load (some 2) (.t 27), (some (159, true)), []⟩,
  ⟨some 162, .eqa false [(0, .int), (1, .int)] (.t 160) (.t 161), (some (159, true)), []⟩,
  ⟨some 163, .pick (.t 159) (.t 162) (.c (.bool false)), none, []⟩,
  ⟨some 164, .mov (.t 163), none, []⟩,
  ⟨some 165, .mov (.t 2), (some (164, true)), []⟩,
  ⟨some 166, .call false [] 8 [(.t 165)], (some (164, true)), []⟩,
  ⟨some 167, .mov (.t 2), (some (164, true)), []⟩,
  ⟨some 168, .call false [] 150 [(.t 167)], (some (164, true)), []⟩,
  ⟨some 169, .eqa false [(0, .int), (1, .int)] (.t 166) (.t 168), (some (164, true)), []⟩,
  ⟨some 170, .pick (.t 164) (.t 169) (.c (.bool false)), none, []⟩,
  ⟨some 8, .mov (.t 170), none, []⟩] [] false)
  (.ret))))))))))))))))))))))
def tf121 : TFunc := { np := 4, nt := 171, res := [.tmp 8], own := false, body := tc121 }
noncomputable def S121 (F10 : Cell → Cell → (Option (Cell × Err))) (F11 : Cell → Cell → (Option (Cell × Err))) (F12 : Cell → Cell → (Option (Cell × Err))) (F138 : ByteArray → (Option (Cell × Err))) (F139 : Cell → (Option (ByteArray × Err))) (F144 : Cell → (Option Int)) (F145 : Cell → (Option ByteArray)) (F146 : Cell → Cell → Int → (Option Cell)) (F147 : Cell → Cell → (Option Cell)) (F148 : Cell → Cell → (Option Cell)) (F149 : ByteArray → (Option (Cell × Int))) (F150 : Int → (Option Cell)) (F52 : Cell → (Option Err)) (F8 : Int → (Option Cell)) (F9 : Cell → Cell → (Option (Cell × Err))) (F92 : Err → Int → (Option Bool)) (a0 : Cell) (a1 : Cell) (a2 : Int) (a3 : ByteArray) : Option Bool :=
  bno (F144 a0) fun y1 =>
  bno (F52 a0) fun y2 =>
  bno (F92 y2 y1) fun y3 =>
  jn (σ := ByteArray) (α := Bool) (br (decide (y1 = (0 : Int)))
  (bno (F145 a0) fun y4 =>
  inlO (some y4))
  (inlO (some (⟨#[]⟩ : ByteArray)))) fun x5 =>
  bno (F139 a0) fun y6 =>
  bno (F92 y6.2 y1) fun y7 =>
  jn (σ := Int) (α := Bool) (br (decide (y1 = (0 : Int)))
  (bno (F144 a1) fun y8 =>
  inlO (some y8))
  (inlO (some y1))) fun x9 =>
  jn (σ := ((Int × Int) × (Int × Int) × (Int × Int) × (Int × Int))) (α := Bool) (br (decide (x9 = (0 : Int)))
  (bno (F146 a0 a1 (1 : Int)) fun y10 =>
  bno (F146 a0 a1 (-1 : Int)) fun y11 =>
  bno (F147 a0 a1) fun y12 =>
  bno (F148 a0 a1) fun y13 =>
  inlO (some ((Cell.k y10, Cell.n y10), (Cell.k y11, Cell.n y11), (Cell.k y12, Cell.n y12), (Cell.k y13, Cell.n y13))))
  (inlO (some (((0 : Int), (0 : Int)), ((0 : Int), (0 : Int)), ((0 : Int), (0 : Int)), ((0 : Int), (0 : Int)))))) fun x14 =>
  bno (F9 a0 a1) fun y15 =>
  bno (F92 y15.2 x9) fun y16 =>
  bno (F12 a0 a1) fun y17 =>
  bno (F92 y17.2 x9) fun y18 =>
  bno (F10 a0 a1) fun y19 =>
  bno (F92 y19.2 x9) fun y20 =>
  bno (F11 a0 a1) fun y21 =>
  bno (F92 y21.2 x9) fun y22 =>
  bno (F149 a3) fun y23 =>
  bno (F138 a3) fun y24 =>
  bno (F92 y24.2 y23.2) fun y25 =>
  jn (σ := Bool) (α := Bool) (br y3
  (br y7
  (br y16
  (br y18
  (br y20
  (br y22
  (br y25
  (br (decide (y6.1 = x5))
  (br (decide ((Cell.k y15.1) = x14.1.1) && (decide ((Cell.n y15.1) = x14.1.2) && true))
  (br (decide ((Cell.k y17.1) = x14.2.1.1) && (decide ((Cell.n y17.1) = x14.2.1.2) && true))
  (br (decide ((Cell.k y19.1) = x14.2.2.1.1) && (decide ((Cell.n y19.1) = x14.2.2.1.2) && true))
  (br (decide ((Cell.k y21.1) = x14.2.2.2.1) && (decide ((Cell.n y21.1) = x14.2.2.2.2) && true))
  (br (decide ((Cell.k y24.1) = (Cell.k y23.1)) && (decide ((Cell.n y24.1) = (Cell.n y23.1)) && true))
  (bno (F8 a2) fun y26 =>
  bno (F150 a2) fun y27 =>
  inlO (some (decide ((Cell.k y26) = (Cell.k y27)) && (decide ((Cell.n y26) = (Cell.n y27)) && true))))
  (inlO (some false)))
  (inlO (some false)))
  (inlO (some false)))
  (inlO (some false)))
  (inlO (some false)))
  (inlO (some false)))
  (inlO (some false)))
  (inlO (some false)))
  (inlO (some false)))
  (inlO (some false)))
  (inlO (some false)))
  (inlO (some false)))
  (inlO (some false))) fun x28 =>
  some x28
theorem s121 (F10 : Cell → Cell → (Option (Cell × Err))) (F11 : Cell → Cell → (Option (Cell × Err))) (F12 : Cell → Cell → (Option (Cell × Err))) (F138 : ByteArray → (Option (Cell × Err))) (F139 : Cell → (Option (ByteArray × Err))) (F144 : Cell → (Option Int)) (F145 : Cell → (Option ByteArray)) (F146 : Cell → Cell → Int → (Option Cell)) (F147 : Cell → Cell → (Option Cell)) (F148 : Cell → Cell → (Option Cell)) (F149 : ByteArray → (Option (Cell × Int))) (F150 : Int → (Option Cell)) (F52 : Cell → (Option Err)) (F8 : Int → (Option Cell)) (F9 : Cell → Cell → (Option (Cell × Err))) (F92 : Err → Int → (Option Bool)) (a0 : Cell) (a1 : Cell) (a2 : Int) (a3 : ByteArray) : tf121.run [⟨10, [(.st .cell), (.st .cell)], (.tp [(.st .cell), .err]), fun x => F10 x.1 x.2, false, []⟩,
  ⟨11, [(.st .cell), (.st .cell)], (.tp [(.st .cell), .err]), fun x => F11 x.1 x.2, false, []⟩,
  ⟨12, [(.st .cell), (.st .cell)], (.tp [(.st .cell), .err]), fun x => F12 x.1 x.2, false, []⟩,
  ⟨138, [.str], (.tp [(.st .cell), .err]), fun x => F138 x, false, []⟩,
  ⟨139, [(.st .cell)], (.tp [.str, .err]), fun x => F139 x, false, []⟩,
  ⟨144, [(.st .cell)], .int, fun x => F144 x, false, []⟩,
  ⟨145, [(.st .cell)], .str, fun x => F145 x, false, []⟩,
  ⟨146, [(.st .cell), (.st .cell), .int], (.st .cell), fun x => F146 x.1 x.2.1 x.2.2, false, []⟩,
  ⟨147, [(.st .cell), (.st .cell)], (.st .cell), fun x => F147 x.1 x.2, false, []⟩,
  ⟨148, [(.st .cell), (.st .cell)], (.st .cell), fun x => F148 x.1 x.2, false, []⟩,
  ⟨149, [.str], (.tp [(.st .cell), .int]), fun x => F149 x, false, []⟩,
  ⟨150, [.int], (.st .cell), fun x => F150 x, false, []⟩,
  ⟨52, [(.st .cell)], .err, fun x => F52 x, false, []⟩,
  ⟨8, [.int], (.st .cell), fun x => F8 x, false, []⟩,
  ⟨9, [(.st .cell), (.st .cell)], (.tp [(.st .cell), .err]), fun x => F9 x.1 x.2, false, []⟩,
  ⟨92, [.err, .int], .bool, fun x => F92 x.1 x.2, false, []⟩] [(.st .cell), (.st .cell), .int, .str] .bool (a0, a1, a2, a3) = S121 F10 F11 F12 F138 F139 F144 F145 F146 F147 F148 F149 F150 F52 F8 F9 F92 a0 a1 a2 a3 := by kernel_rfl
noncomputable def P121 (a0 : Cell) (a1 : Cell) (a2 : Int) (a3 : ByteArray) : Option Bool := S121 P10 P11 P12 P138 P139 P144 P145 P146 P147 P148 P149 P150 P52 P8 P9 P92 a0 a1 a2 a3
noncomputable def k121 : CSpec := ⟨121, [(.st .cell), (.st .cell), .int, .str], .bool, fun x => P121 x.1 x.2.1 x.2.2.1 x.2.2.2, false, []⟩
theorem r121 {S : Seat} (h : Ok1 S 121 tf121) (h10 : Rt S k10) (h11 : Rt S k11) (h12 : Rt S k12) (h138 : Rt S k138) (h139 : Rt S k139) (h144 : Rt S k144) (h145 : Rt S k145) (h146 : Rt S k146) (h147 : Rt S k147) (h148 : Rt S k148) (h149 : Rt S k149) (h150 : Rt S k150) (h52 : Rt S k52) (h8 : Rt S k8) (h9 : Rt S k9) (h92 : Rt S k92) : Rt S k121 := fun x y hy =>
  Ok1.sound h (C := [k10, k11, k12, k138, k139, k144, k145, k146, k147, k148, k149, k150, k52, k8, k9, k92]) (CSound.cons h10 (CSound.cons h11 (CSound.cons h12 (CSound.cons h138 (CSound.cons h139 (CSound.cons h144 (CSound.cons h145 (CSound.cons h146 (CSound.cons h147 (CSound.cons h148 (CSound.cons h149 (CSound.cons h150 (CSound.cons h52 (CSound.cons h8 (CSound.cons h9 (CSound.cons h92 CSound.nil)))))))))))))))) rfl rfl rfl ((s121 P10 P11 P12 P138 P139 P144 P145 P146 P147 P148 P149 P150 P52 P8 P9 P92 x.1 x.2.1 x.2.2.1 x.2.2.2).trans hy) rfl

end Ab
