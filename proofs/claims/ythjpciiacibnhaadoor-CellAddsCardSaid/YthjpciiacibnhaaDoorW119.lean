/-
  Functions of the program as typed code, what they come to, and their contracts: written by program (mk.py).
-/
import Derived.Test.YthjpciiacibnhaaDoorB2
import Derived.KernelRfl
import Derived.Test.YthjpciiacibnhaaDoorMC
import Derived.Test.YthjpciiacibnhaaDoorMCe
namespace Ab
open Go
set_option linter.unusedVariables false
set_option maxRecDepth 100000

/- tallyhall/tallylaw1.CellAdds -/
def tc119 : TCode :=
  .seq (.region [
  ⟨some 3, .box (.t 0), none, []⟩,
  ⟨some 4, .box (.t 1), none, []⟩,
  ⟨some 6, .mov (.c (.bool false)), none, []⟩] [] false)
  (.seq (.region [
  ⟨some 29, .call false [] 8 [(.c (.int .i64 2))], none, []⟩,
  ⟨some 30, .call false [] 8 [(.c (.int .i64 3))], none, []⟩,
  ⟨some 31, .call false [] 9 [(.t 29), (.t 30)], none, []⟩,
  ⟨some 28, .mov (.t 31), none, []⟩,
  ⟨some 32, .ext (.t 28) 0, none, []⟩,
  ⟨some 33, .ext (.t 28) 1, none, []⟩,
  ⟨some 7, .alloc [.int .i64 0, .int .i64 0], none, []⟩,
  ⟨none, .store 2 (.t 7) (.t 32), none, []⟩,
  ⟨some 8, .mov (.t 33), none, []⟩] [] false)
  (.seq (.seq (.regionJ ⟨[.slot 45 .bool], [34, 35, 36, 37, 38, 39, 40, 41, 42, 43, 44], [], []⟩ [
  ⟨some 34, .mov (.t 8), none, []⟩,
  ⟨some 35, .eqn false true (.t 34), none, [0]⟩,
  ⟨some 36, .mov (.t 35), none, [1]⟩,
  ⟨some 37, .load (some 2) (.t 7), (some (36, false)), [2]⟩,
  ⟨some 38, .call false [] 8 [(.c (.int .i64 5))], (some (36, false)), [2, 2]⟩,
  ⟨some 39, .eqa true [(0, .int), (1, .int)] (.t 37) (.t 38), (some (36, false)), [3, 4, 2]⟩,
  ⟨some 40, .pick (.t 36) (.c (.bool true)) (.t 39), none, [2, 5]⟩,
  ⟨some 41, .mov (.t 40), none, [6, 4]⟩,
  ⟨some 42, .call false [] 8 [(.c (.int .i64 5))], (some (41, false)), [7, 7]⟩,
  ⟨some 43, .fld 1 none (.t 42), (some (41, false)), [8, 7]⟩,
  ⟨some 44, .bin .int .neq (.t 43) (.c (.int .i64 5)), (some (41, false)), [9, 7]⟩,
  ⟨some 45, .pick (.t 41) (.c (.bool true)) (.t 44), none, [7, 10]⟩] [] true)
  (.cond (.t 45)
    (.seq (.region [
  ⟨some 6, .mov (.c (.bool false)), none, []⟩] [] false)
    (.ret))
    (.skip)))
  (.seq (.region [
  ⟨some 47, .mov (.t 2), none, []⟩,
  ⟨some 48, .call false [] 138 [(.t 47)], none, []⟩,
  ⟨some 46, .mov (.t 48), none, []⟩,
  ⟨some 49, .ext (.t 46) 0, none, []⟩,
  ⟨some 50, .ext (.t 46) 1, none, []⟩,
  ⟨some 9, .alloc [.int .i64 0, .int .i64 0], none, []⟩,
  ⟨none, .store 2 (.t 9) (.t 49), none, []⟩,
  ⟨some 10, .mov (.t 50), none, []⟩] [] false)
  (.seq (.seq (.region [
  ⟨some 51, .mov (.t 10), none, []⟩,
  ⟨some 52, .eqn false false (.t 51), none, []⟩] [] false)
  (.condJ ⟨[], [11, 12, 53, 54, 55, 56, 57, 58, 59, 60, 61, 62, 63, 64], [], []⟩ (.t 52)
    (.seq (.region [
  ⟨some 54, .load (some 2) (.t 9), none, []⟩,
  ⟨some 55, .call false [] 139 [(.t 54)], none, []⟩,
  ⟨some 53, .mov (.t 55), none, []⟩,
  ⟨some 56, .ext (.t 53) 0, none, []⟩,
  ⟨some 57, .ext (.t 53) 1, none, []⟩,
  ⟨some 11, .mov (.t 56), none, []⟩,
  ⟨some 12, .mov (.t 57), none, []⟩] [] false)
    (.seq (.regionJ ⟨[.slot 64 .bool], [58, 59, 60, 61, 62, 63], [], []⟩ [
  ⟨some 58, .mov (.t 12), none, []⟩,
  ⟨some 59, .eqn false true (.t 58), none, []⟩,
  ⟨some 60, .mov (.t 59), none, []⟩,
  ⟨some 61, .mov (.t 11), (some (60, false)), []⟩,
  ⟨some 62, .mov (.t 2), (some (60, false)), []⟩,
  ⟨some 63, .bin .str .neq (.t 61) (.t 62), (some (60, false)), []⟩,
  ⟨some 64, .pick (.t 60) (.c (.bool true)) (.t 63), none, []⟩] [] false)
    (.cond (.t 64)
      (.seq (.region [
  ⟨some 6, .mov (.c (.bool false)), none, []⟩] [] false)
      (.ret))
      (.skip))))
    (.skip)))
  (.seq (.region [
  ⟨some 66, .load (some 2) (.t 3), none, []⟩,
  ⟨some 67, .call false [] 139 [(.t 66)], none, []⟩,
  ⟨some 65, .mov (.t 67), none, []⟩,
  ⟨some 68, .ext (.t 65) 0, none, []⟩,
  ⟨some 69, .ext (.t 65) 1, none, []⟩,
  ⟨some 13, .mov (.t 68), none, []⟩,
  ⟨some 10, .mov (.t 69), none, []⟩] [] false)
  (.seq (.seq (.region [
  ⟨some 70, .mov (.t 10), none, []⟩,
  ⟨some 71, .eqn false false (.t 70), none, []⟩] [] false)
  (.condJ ⟨[], [14, 15, 72, 73, 74, 75, 76, 77, 78, 79, 80, 81, 82, 83], [14], []⟩ (.t 71)
    (.seq (.region [
  ⟨some 73, .mov (.t 13), none, []⟩,
  ⟨some 74, .call false [] 138 [(.t 73)], none, []⟩,
  ⟨some 72, .mov (.t 74), none, []⟩,
  ⟨some 75, .ext (.t 72) 0, none, []⟩,
  ⟨some 76, .ext (.t 72) 1, none, []⟩,
  ⟨some 14, .alloc [.int .i64 0, .int .i64 0], none, []⟩,
  ⟨none, .store 2 (.t 14) (.t 75), none, []⟩,
  ⟨some 15, .mov (.t 76), none, []⟩] [] false)
    (.seq (.regionJ ⟨[.slot 83 .bool], [77, 78, 79, 80, 81, 82], [], []⟩ [
  ⟨some 77, .mov (.t 15), none, []⟩,
  ⟨some 78, .eqn false true (.t 77), none, []⟩,
  ⟨some 79, .mov (.t 78), none, []⟩,
  ⟨some 80, .load (some 2) (.t 14), (some (79, false)), []⟩,
  ⟨some 81, .load (some 2) (.t 3), (some (79, false)), []⟩,
  ⟨some 82, .eqa true [(0, .int), (1, .int)] (.t 80) (.t 81), (some (79, false)), []⟩,
  ⟨some 83, .pick (.t 79) (.c (.bool true)) (.t 82), none, []⟩] [] false)
    (.cond (.t 83)
      (.seq (.region [
  ⟨some 6, .mov (.c (.bool false)), none, []⟩] [] false)
      (.ret))
      (.skip))))
    (.skip)))
  (.seq (.region [
  ⟨some 85, .load (some 2) (.t 3), none, []⟩,
  ⟨some 86, .load (some 2) (.t 4), none, []⟩,
  ⟨some 87, .call false [] 9 [(.t 85), (.t 86)], none, []⟩,
  ⟨some 84, .mov (.t 87), none, []⟩,
  ⟨some 88, .ext (.t 84) 0, none, []⟩,
  ⟨some 89, .ext (.t 84) 1, none, []⟩,
  ⟨some 16, .alloc [.int .i64 0, .int .i64 0], none, []⟩,
  ⟨none, .store 2 (.t 16) (.t 88), none, []⟩,
  ⟨some 17, .mov (.t 89), none, []⟩] [] false)
  (.seq (.region [
  ⟨some 91, .load (some 2) (.t 4), none, []⟩,
  ⟨some 92, .load (some 2) (.t 3), none, []⟩,
  ⟨some 93, .call false [] 9 [(.t 91), (.t 92)], none, []⟩,
  ⟨some 90, .mov (.t 93), none, []⟩,
  ⟨some 94, .ext (.t 90) 0, none, []⟩,
  ⟨some 95, .ext (.t 90) 1, none, []⟩,
  ⟨some 18, .alloc [.int .i64 0, .int .i64 0], none, []⟩,
  ⟨none, .store 2 (.t 18) (.t 94), none, []⟩,
  ⟨some 19, .mov (.t 95), none, []⟩] [] false)
  (.seq (.region [
  ⟨some 97, .load (some 2) (.t 3), none, []⟩,
  ⟨some 98, .load (some 2) (.t 4), none, []⟩,
  ⟨some 99, .call false [] 10 [(.t 97), (.t 98)], none, []⟩,
  ⟨some 96, .mov (.t 99), none, []⟩,
  ⟨some 100, .ext (.t 96) 0, none, []⟩,
  ⟨some 101, .ext (.t 96) 1, none, []⟩,
  ⟨some 20, .alloc [.int .i64 0, .int .i64 0], none, []⟩,
  ⟨none, .store 2 (.t 20) (.t 100), none, []⟩,
  ⟨some 21, .mov (.t 101), none, []⟩] [] false)
  (.seq (.region [
  ⟨some 103, .load (some 2) (.t 4), none, []⟩,
  ⟨some 104, .load (some 2) (.t 3), none, []⟩,
  ⟨some 105, .call false [] 10 [(.t 103), (.t 104)], none, []⟩,
  ⟨some 102, .mov (.t 105), none, []⟩,
  ⟨some 106, .ext (.t 102) 0, none, []⟩,
  ⟨some 107, .ext (.t 102) 1, none, []⟩,
  ⟨some 22, .alloc [.int .i64 0, .int .i64 0], none, []⟩,
  ⟨none, .store 2 (.t 22) (.t 106), none, []⟩,
  ⟨some 23, .mov (.t 107), none, []⟩] [] false)
  (.seq (.seq (.regionJ ⟨[.slot 121 .bool], [108, 109, 110, 111, 112, 113, 114, 115, 116, 117, 118, 119, 120], [], []⟩ [
  ⟨some 108, .mov (.t 17), none, []⟩,
  ⟨some 109, .eqn false true (.t 108), none, []⟩,
  ⟨some 110, .mov (.t 109), none, []⟩,
  ⟨some 111, .mov (.t 19), (some (110, false)), []⟩,
  ⟨some 112, .eqn false true (.t 111), (some (110, false)), []⟩,
  ⟨some 113, .pick (.t 110) (.c (.bool true)) (.t 112), none, []⟩,
  ⟨some 114, .mov (.t 113), none, []⟩,
  ⟨some 115, .mov (.t 21), (some (114, false)), []⟩,
  ⟨some 116, .eqn false true (.t 115), (some (114, false)), []⟩,
  ⟨some 117, .pick (.t 114) (.c (.bool true)) (.t 116), none, []⟩,
  ⟨some 118, .mov (.t 117), none, []⟩,
  ⟨some 119, .mov (.t 23), (some (118, false)), []⟩,
  ⟨some 120, .eqn false true (.t 119), (some (118, false)), []⟩,
  ⟨some 121, .pick (.t 118) (.c (.bool true)) (.t 120), none, []⟩] [] false)
  (.cond (.t 121)
    (.seq (.region [
  ⟨some 6, .mov (.c (.bool true)), none, []⟩] [] false)
    (.ret))
    (.skip)))
  (.seq (.region [
  ⟨some 123, .load (some 2) (.t 3), none, []⟩,
  ⟨some 124, .build [.int .i64 0, .int .i64 0] [], none, []⟩,
  ⟨some 125, .call false [] 9 [(.t 123), (.t 124)], none, []⟩,
  ⟨some 122, .mov (.t 125), none, []⟩,
  ⟨some 126, .ext (.t 122) 0, none, []⟩,
  ⟨some 127, .ext (.t 122) 1, none, []⟩,
  ⟨some 24, .alloc [.int .i64 0, .int .i64 0], none, []⟩,
  ⟨none, .store 2 (.t 24) (.t 126), none, []⟩,
  ⟨some 25, .mov (.t 127), none, []⟩] [] false)
  (.seq (.region [
  ⟨some 129, .load (some 2) (.t 16), none, []⟩,
  ⟨some 130, .load (some 2) (.t 4), none, []⟩,
  ⟨some 131, .call false [] 12 [(.t 129), (.t 130)], none, []⟩,
  ⟨some 128, .mov (.t 131), none, []⟩,
  ⟨some 132, .ext (.t 128) 0, none, []⟩,
  ⟨some 133, .ext (.t 128) 1, none, []⟩,
  ⟨some 26, .alloc [.int .i64 0, .int .i64 0], none, []⟩,
  ⟨none, .store 2 (.t 26) (.t 132), none, []⟩,
  ⟨some 27, .mov (.t 133), none, []⟩] [] false)
  (.seq (.seq (.regionJ ⟨[.slot 154 .bool], [134, 135, 136, 137, 138, 139, 140, 141, 142, 143, 144, 145, 146, 147, 148, 149, 150, 151, 152, 153], [], []⟩ [
  ⟨some 134, .mov (.t 25), none, []⟩,
  ⟨some 135, .eqn false true (.t 134), none, []⟩,
  ⟨some 136, .mov (.t 135), none, []⟩,
  ⟨some 137, .mov (.t 27), (some (136, false)), []⟩,
  ⟨some 138, .eqn false true (.t 137), (some (136, false)), []⟩,
  ⟨some 139, .pick (.t 136) (.c (.bool true)) (.t 138), none, []⟩,
  ⟨some 140, .mov (.t 139), none, []⟩,
  ⟨some 141, .load (some 2) (.t 16), (some (140, false)), []⟩,
  ⟨some 142, .load (some 2) (.t 18), (some (140, false)), []⟩,
  ⟨some 143, .eqa true [(0, .int), (1, .int)] (.t 141) (.t 142), (some (140, false)), []⟩,
  ⟨some 144, .pick (.t 140) (.c (.bool true)) (.t 143), none, []⟩,
  ⟨some 145, .mov (.t 144), none, []⟩,
  ⟨some 146, .load (some 2) (.t 20), (some (145, false)), []⟩,
  ⟨some 147, .load (some 2) (.t 22), (some (145, false)), []⟩,
  ⟨some 148, .eqa true [(0, .int), (1, .int)] (.t 146) (.t 147), (some (145, false)), []⟩,
  ⟨some 149, .pick (.t 145) (.c (.bool true)) (.t 148), none, []⟩,
  ⟨some 150, .mov (.t 149), none, []⟩,
  ⟨some 151, .load (some 2) (.t 24), (some (150, false)), []⟩,
  ⟨some 152, .load (some 2) (.t 3), (some (150, false)), []⟩,
  ⟨some 153, .eqa true [(0, .int), (1, .int)] (.t 151) (.t 152), (some (150, false)), []⟩,
  ⟨some 154, .pick (.t 150) (.c (.bool true)) (.t 153), none, []⟩] [] false)
  (.cond (.t 154)
    (.seq (.region [
  ⟨some 6, .mov (.c (.bool false)), none, []⟩] [] false)
    (.ret))
    (.skip)))
  (.seq (.seq (.regionJ ⟨[.slot 162 .bool], [155, 156, 157, 158, 159, 160, 161], [], []⟩ [
  ⟨some 155, .fa 0 (.t 3), none, []⟩,
  ⟨some 156, .load none (.t 155), none, []⟩,
  ⟨some 157, .bin .int .eql (.t 156) (.c (.int .i64 2)), none, []⟩,
  ⟨some 158, .mov (.t 157), none, []⟩,
  ⟨some 159, .fa 0 (.t 4), (some (158, false)), []⟩,
  ⟨some 160, .load none (.t 159), (some (158, false)), []⟩,
  ⟨some 161, .bin .int .eql (.t 160) (.c (.int .i64 2)), (some (158, false)), []⟩,
  ⟨some 162, .pick (.t 158) (.c (.bool true)) (.t 161), none, []⟩] [] false)
  (.cond (.t 162)
    (.seq (.regionJ ⟨[.slot 6 .bool], [163, 164, 165, 166, 167, 168, 169, 170], [], []⟩ [
  ⟨some 163, .fa 0 (.t 16), none, []⟩,
  ⟨some 164, .load none (.t 163), none, []⟩,
  ⟨some 165, .bin .int .eql (.t 164) (.c (.int .i64 2)), none, []⟩,
  ⟨some 166, .mov (.t 165), none, []⟩,
  ⟨some 167, .fa 0 (.t 20), (some (166, true)), []⟩,
  ⟨some 168, .load none (.t 167), (some (166, true)), []⟩,
  ⟨some 169, .bin .int .eql (.t 168) (.c (.int .i64 2)), (some (166, true)), []⟩,
  ⟨some 170, .pick (.t 166) (.t 169) (.c (.bool false)), none, []⟩,
  ⟨some 6, .mov (.t 170), none, []⟩] [] false)
    (.ret))
    (.skip)))
  (.seq (.regionJ ⟨[.slot 6 .bool], [171, 172, 173, 174, 175, 176, 177, 178, 179, 180, 181, 182, 183], [], []⟩ [
  ⟨some 171, .fa 0 (.t 16), none, []⟩,
  ⟨some 172, .load none (.t 171), none, []⟩,
  ⟨some 173, .bin .int .neq (.t 172) (.c (.int .i64 1)), none, []⟩,
  ⟨some 174, .mov (.t 173), none, []⟩,
  ⟨some 175, .fa 0 (.t 3), (some (174, false)), []⟩,
  ⟨some 176, .load none (.t 175), (some (174, false)), []⟩,
  ⟨some 177, .bin .int .neq (.t 176) (.c (.int .i64 1)), (some (174, false)), []⟩,
  ⟨some 178, .pick (.t 174) (.c (.bool true)) (.t 177), none, []⟩,
  ⟨some 179, .mov (.t 178), none, []⟩,
  ⟨some 180, .load (some 2) (.t 26), (some (179, false)), []⟩,
  ⟨some 181, .load (some 2) (.t 3), (some (179, false)), []⟩,
  ⟨some 182, .eqa false [(0, .int), (1, .int)] (.t 180) (.t 181), (some (179, false)), []⟩,
  ⟨some 183, .pick (.t 179) (.c (.bool true)) (.t 182), none, []⟩,
  ⟨some 6, .mov (.t 183), none, []⟩] [] false)
  (.ret)))))))))))))))))
def tf119 : TFunc := { np := 3, nt := 184, res := [.tmp 6], own := false, body := tc119 }
noncomputable def S119 (F10 : Cell → Cell → (Option (Cell × Err))) (F12 : Cell → Cell → (Option (Cell × Err))) (F138 : ByteArray → (Option (Cell × Err))) (F139 : Cell → (Option (ByteArray × Err))) (F8 : Int → (Option Cell)) (F9 : Cell → Cell → (Option (Cell × Err))) (a0 : Cell) (a1 : Cell) (a2 : ByteArray) : Option Bool :=
  bno (F8 (2 : Int)) fun y1 =>
  bno (F8 (3 : Int)) fun y2 =>
  bno (F9 y1 y2) fun y3 =>
  jn (σ := Bool) (α := Bool) (br (!(Err.isNil y3.2))
  (inlO (some true))
  (bno (F8 (5 : Int)) fun y4 =>
  br (!(decide ((Cell.k y3.1) = (Cell.k y4)) && (decide ((Cell.n y3.1) = (Cell.n y4)) && true)))
  (inlO (some true))
  (bno (F8 (5 : Int)) fun y5 =>
  inlO (some (decide (¬ (Cell.n y5) = (5 : Int))))))) fun x6 =>
  br x6
  (some false)
  (bno (F138 a2) fun y7 =>
  jn (σ := Unit) (α := Bool) (br (Err.isNil y7.2)
  (bno (F139 y7.1) fun y8 =>
  jn (σ := Bool) (α := (Sum Unit Bool)) (br (!(Err.isNil y8.2))
  (inlO (some true))
  (inlO (some (decide (¬ y8.1 = a2))))) fun x9 =>
  br x9
  (inrO (some false))
  (inlO (some ())))
  (inlO (some ()))) fun x10 =>
  bno (F139 a0) fun y11 =>
  jn (σ := Unit) (α := Bool) (br (Err.isNil y11.2)
  (bno (F138 y11.1) fun y12 =>
  jn (σ := Bool) (α := (Sum Unit Bool)) (br (!(Err.isNil y12.2))
  (inlO (some true))
  (inlO (some (!(decide ((Cell.k y12.1) = (Cell.k a0)) && (decide ((Cell.n y12.1) = (Cell.n a0)) && true)))))) fun x13 =>
  br x13
  (inrO (some false))
  (inlO (some ())))
  (inlO (some ()))) fun x14 =>
  bno (F9 a0 a1) fun y15 =>
  bno (F9 a1 a0) fun y16 =>
  bno (F10 a0 a1) fun y17 =>
  bno (F10 a1 a0) fun y18 =>
  jn (σ := Bool) (α := Bool) (br (!(Err.isNil y15.2))
  (inlO (some true))
  (br (!(Err.isNil y16.2))
  (inlO (some true))
  (br (!(Err.isNil y17.2))
  (inlO (some true))
  (inlO (some (!(Err.isNil y18.2))))))) fun x19 =>
  br x19
  (some true)
  (bno (F9 a0 (Cell.mk (0 : Int) (0 : Int))) fun y20 =>
  bno (F12 y15.1 a1) fun y21 =>
  jn (σ := Bool) (α := Bool) (br (!(Err.isNil y20.2))
  (inlO (some true))
  (br (!(Err.isNil y21.2))
  (inlO (some true))
  (br (!(decide ((Cell.k y15.1) = (Cell.k y16.1)) && (decide ((Cell.n y15.1) = (Cell.n y16.1)) && true)))
  (inlO (some true))
  (br (!(decide ((Cell.k y17.1) = (Cell.k y18.1)) && (decide ((Cell.n y17.1) = (Cell.n y18.1)) && true)))
  (inlO (some true))
  (inlO (some (!(decide ((Cell.k y20.1) = (Cell.k a0)) && (decide ((Cell.n y20.1) = (Cell.n a0)) && true))))))))) fun x22 =>
  br x22
  (some false)
  (jn (σ := Bool) (α := Bool) (br (decide ((Cell.k a0) = (2 : Int)))
  (inlO (some true))
  (inlO (some (decide ((Cell.k a1) = (2 : Int)))))) fun x23 =>
  br x23
  (jn (σ := Bool) (α := Bool) (br (decide ((Cell.k y15.1) = (2 : Int)))
  (inlO (some (decide ((Cell.k y17.1) = (2 : Int)))))
  (inlO (some false))) fun x24 =>
  some x24)
  (jn (σ := Bool) (α := Bool) (br (decide (¬ (Cell.k y15.1) = (1 : Int)))
  (inlO (some true))
  (br (decide (¬ (Cell.k a0) = (1 : Int)))
  (inlO (some true))
  (inlO (some (decide ((Cell.k y21.1) = (Cell.k a0)) && (decide ((Cell.n y21.1) = (Cell.n a0)) && true)))))) fun x25 =>
  some x25))))
theorem s119 (F10 : Cell → Cell → (Option (Cell × Err))) (F12 : Cell → Cell → (Option (Cell × Err))) (F138 : ByteArray → (Option (Cell × Err))) (F139 : Cell → (Option (ByteArray × Err))) (F8 : Int → (Option Cell)) (F9 : Cell → Cell → (Option (Cell × Err))) (a0 : Cell) (a1 : Cell) (a2 : ByteArray) : tf119.run [⟨10, [(.st .cell), (.st .cell)], (.tp [(.st .cell), .err]), fun x => F10 x.1 x.2, false, []⟩,
  ⟨12, [(.st .cell), (.st .cell)], (.tp [(.st .cell), .err]), fun x => F12 x.1 x.2, false, []⟩,
  ⟨138, [.str], (.tp [(.st .cell), .err]), fun x => F138 x, false, []⟩,
  ⟨139, [(.st .cell)], (.tp [.str, .err]), fun x => F139 x, false, []⟩,
  ⟨8, [.int], (.st .cell), fun x => F8 x, false, []⟩,
  ⟨9, [(.st .cell), (.st .cell)], (.tp [(.st .cell), .err]), fun x => F9 x.1 x.2, false, []⟩] [(.st .cell), (.st .cell), .str] .bool (a0, a1, a2) = S119 F10 F12 F138 F139 F8 F9 a0 a1 a2 := by kernel_rfl
noncomputable def P119 (a0 : Cell) (a1 : Cell) (a2 : ByteArray) : Option Bool := S119 P10 P12 P138 P139 P8 P9 a0 a1 a2
noncomputable def k119 : CSpec := ⟨119, [(.st .cell), (.st .cell), .str], .bool, fun x => P119 x.1 x.2.1 x.2.2, false, []⟩
theorem r119 {S : Seat} (h : Ok1 S 119 tf119) (h10 : Rt S k10) (h12 : Rt S k12) (h138 : Rt S k138) (h139 : Rt S k139) (h8 : Rt S k8) (h9 : Rt S k9) : Rt S k119 := fun x y hy =>
  Ok1.sound h (C := [k10, k12, k138, k139, k8, k9]) (CSound.cons h10 (CSound.cons h12 (CSound.cons h138 (CSound.cons h139 (CSound.cons h8 (CSound.cons h9 CSound.nil)))))) rfl rfl rfl ((s119 P10 P12 P138 P139 P8 P9 x.1 x.2.1 x.2.2).trans hy) rfl

end Ab
