/-
  Functions of the program as typed code, what they come to, and their contracts: written by program (mk.py).
-/
import Derived.Test.YthjpciiacibnhaaDoorB2
import Derived.KernelRfl
import Derived.Test.YthjpciiacibnhaaDoorMAl
import Derived.Test.YthjpciiacibnhaaDoorMI
import Derived.Test.YthjpciiacibnhaaDoorMIn
import Derived.Test.YthjpciiacibnhaaDoorMR2
import Derived.Test.YthjpciiacibnhaaDoorMR3
import Derived.Test.YthjpciiacibnhaaDoorMS
namespace Ab
open Go
set_option linter.unusedVariables false
set_option maxRecDepth 100000

/- tallyhall/tallylaw1.InputTells -/
def tc118 : TCode :=
  .seq (.region [
  ⟨some 5, .box (.t 0), none, []⟩,
  ⟨some 10, .mov (.c (.bool false)), none, []⟩] [] false)
  (.seq (.region [
  ⟨some 28, .load (some 1) (.t 5), none, []⟩,
  ⟨some 29, .mov (.t 1), none, []⟩,
  ⟨some 30, .call false [] 122 [(.t 28), (.t 29)], none, []⟩,
  ⟨some 11, .mov (.t 30), none, []⟩] [] false)
  (.seq (.region [
  ⟨some 31, .load (some 1) (.t 5), none, []⟩,
  ⟨some 32, .mov (.t 1), none, []⟩,
  ⟨some 33, .call false [] 27 [(.t 31), (.t 32)], none, []⟩,
  ⟨some 34, .mov (.t 11), none, []⟩,
  ⟨some 35, .call false [] 92 [(.t 33), (.t 34)], none, []⟩,
  ⟨some 12, .mov (.t 35), none, []⟩] [] false)
  (.seq (.region [
  ⟨some 36, .mov (.t 11), none, []⟩,
  ⟨some 13, .mov (.t 36), none, []⟩] [] false)
  (.seq (.seq (.region [
  ⟨some 37, .mov (.t 13), none, []⟩,
  ⟨some 38, .bin .int .eql (.t 37) (.c (.int .i64 0)), none, []⟩] [] false)
  (.condJ ⟨[.slot 13 .int], [39, 40, 41], [], []⟩ (.t 38)
    (.region [
  ⟨some 39, .load (some 1) (.t 5), none, []⟩,
  ⟨some 40, .mov (.t 2), none, []⟩,
  ⟨some 41, .call false [] 123 [(.t 39), (.t 40)], none, []⟩,
  ⟨some 13, .mov (.t 41), none, []⟩] [] false)
    (.skip)))
  (.seq (.region [
  ⟨some 14, .alloc [.int .i64 0, .int .i64 0], none, []⟩] [] false)
  (.seq (.seq (.region [
  ⟨some 42, .mov (.t 13), none, []⟩,
  ⟨some 43, .bin .int .eql (.t 42) (.c (.int .i64 0)), none, []⟩] [] false)
  (.condJ ⟨[.var 14 [.sh .int, .sh .int]], [44, 45, 46], [], []⟩ (.t 43)
    (.region [
  ⟨some 44, .mov (.t 1), none, []⟩,
  ⟨some 45, .mov (.t 2), none, []⟩,
  ⟨some 46, .call false [] 134 [(.t 44), (.t 45)], none, []⟩,
  ⟨none, .store 2 (.t 14) (.t 46), none, []⟩] [] false)
    (.skip)))
  (.seq (.region [
  ⟨some 48, .load (some 1) (.t 5), none, []⟩,
  ⟨some 49, .mov (.t 1), none, []⟩,
  ⟨some 50, .mov (.t 2), none, []⟩,
  ⟨some 51, .call false [] 26 [(.t 48), (.t 49), (.t 50)], none, []⟩,
  ⟨some 47, .mov (.t 51), none, []⟩,
  ⟨some 52, .ext (.t 47) 0, none, []⟩,
  ⟨some 53, .ext (.t 47) 1, none, []⟩,
  ⟨some 15, .alloc [.int .i64 0, .int .i64 0], none, []⟩,
  ⟨none, .store 2 (.t 15) (.t 52), none, []⟩,
  ⟨some 16, .mov (.t 53), none, []⟩] [] false)
  (.seq (.region [
  ⟨some 54, .mov (.t 16), none, []⟩,
  ⟨some 55, .mov (.t 13), none, []⟩,
  ⟨some 56, .call false [] 92 [(.t 54), (.t 55)], none, []⟩,
  ⟨some 17, .mov (.t 56), none, []⟩] [] false)
  (.seq (.region [
  ⟨some 57, .mov (.t 11), none, []⟩,
  ⟨some 13, .mov (.t 57), none, []⟩] [] false)
  (.seq (.region [
  ⟨some 18, .mov (.c (.slice none 0 0)), none, []⟩] [] false)
  (.seq (.seq (.region [
  ⟨some 58, .mov (.t 13), none, []⟩,
  ⟨some 59, .bin .int .eql (.t 58) (.c (.int .i64 0)), none, []⟩] [] false)
  (.condJ ⟨[.slot 13 .int, .slot 18 (.sl .entry)], [60, 61, 62, 63, 64, 65, 66, 67, 68], [], []⟩ (.t 59)
    (.region [
  ⟨some 61, .load (some 1) (.t 5), none, []⟩,
  ⟨some 62, .mov (.t 1), none, []⟩,
  ⟨some 63, .mov (.t 2), none, []⟩,
  ⟨some 64, .mov (.t 3), none, []⟩,
  ⟨some 65, .build [.slice none 0 0, .int .i64 0, .bool false] [(0, 1, (.t 63)), (1, 1, (.t 64))], none, []⟩,
  ⟨some 66, .call true [] 135 [(.t 61), (.t 62), (.t 65)], none, []⟩,
  ⟨some 60, .mov (.t 66), none, []⟩,
  ⟨some 67, .ext (.t 60) 0, none, []⟩,
  ⟨some 68, .ext (.t 60) 1, none, []⟩,
  ⟨some 18, .mov (.t 67), none, []⟩,
  ⟨some 13, .mov (.t 68), none, []⟩] [] false)
    (.skip)))
  (.seq (.region [
  ⟨some 70, .load (some 1) (.t 5), none, []⟩,
  ⟨some 71, .mov (.t 1), none, []⟩,
  ⟨some 72, .mov (.t 2), none, []⟩,
  ⟨some 73, .mov (.t 3), none, []⟩,
  ⟨some 74, .call true [] 25 [(.t 70), (.t 71), (.t 72), (.t 73)], none, []⟩,
  ⟨some 69, .mov (.t 74), none, []⟩,
  ⟨some 75, .ext (.t 69) 0, none, []⟩,
  ⟨some 76, .ext (.t 69) 1, none, []⟩,
  ⟨some 19, .mov (.t 75), none, []⟩,
  ⟨some 16, .mov (.t 76), none, []⟩] [] false)
  (.seq (.region [
  ⟨some 77, .mov (.t 16), none, []⟩,
  ⟨some 78, .mov (.t 13), none, []⟩,
  ⟨some 79, .call false [] 92 [(.t 77), (.t 78)], none, []⟩,
  ⟨some 20, .mov (.t 79), none, []⟩] [] false)
  (.seq (.region [
  ⟨some 80, .mov (.t 19), none, []⟩,
  ⟨some 81, .mov (.t 18), none, []⟩,
  ⟨some 82, .call false [] 136 [(.t 80), (.t 81)], none, []⟩,
  ⟨some 21, .mov (.t 82), none, []⟩] [] false)
  (.seq (.region [
  ⟨some 83, .mov (.t 11), none, []⟩,
  ⟨some 13, .mov (.t 83), none, []⟩] [] false)
  (.seq (.region [
  ⟨some 18, .mov (.c (.slice none 0 0)), none, []⟩] [] false)
  (.seq (.seq (.region [
  ⟨some 84, .mov (.t 13), none, []⟩,
  ⟨some 85, .bin .int .eql (.t 84) (.c (.int .i64 0)), none, []⟩] [] false)
  (.condJ ⟨[.slot 13 .int, .slot 18 (.sl .entry)], [86, 87, 88, 89, 90, 91, 92, 93], [], []⟩ (.t 85)
    (.region [
  ⟨some 87, .load (some 1) (.t 5), none, []⟩,
  ⟨some 88, .mov (.t 1), none, []⟩,
  ⟨some 89, .mov (.t 2), none, []⟩,
  ⟨some 90, .build [.slice none 0 0, .int .i64 0, .bool false] [(0, 1, (.t 89)), (2, 1, (.c (.bool true)))], none, []⟩,
  ⟨some 91, .call true [] 135 [(.t 87), (.t 88), (.t 90)], none, []⟩,
  ⟨some 86, .mov (.t 91), none, []⟩,
  ⟨some 92, .ext (.t 86) 0, none, []⟩,
  ⟨some 93, .ext (.t 86) 1, none, []⟩,
  ⟨some 18, .mov (.t 92), none, []⟩,
  ⟨some 13, .mov (.t 93), none, []⟩] [] false)
    (.skip)))
  (.seq (.region [
  ⟨some 95, .load (some 1) (.t 5), none, []⟩,
  ⟨some 96, .mov (.t 1), none, []⟩,
  ⟨some 97, .mov (.t 2), none, []⟩,
  ⟨some 98, .call true [] 29 [(.t 95), (.t 96), (.t 97)], none, []⟩,
  ⟨some 94, .mov (.t 98), none, []⟩,
  ⟨some 99, .ext (.t 94) 0, none, []⟩,
  ⟨some 100, .ext (.t 94) 1, none, []⟩,
  ⟨some 19, .mov (.t 99), none, []⟩,
  ⟨some 16, .mov (.t 100), none, []⟩] [] false)
  (.seq (.region [
  ⟨some 101, .mov (.t 16), none, []⟩,
  ⟨some 102, .mov (.t 13), none, []⟩,
  ⟨some 103, .call false [] 92 [(.t 101), (.t 102)], none, []⟩,
  ⟨some 22, .mov (.t 103), none, []⟩] [] false)
  (.seq (.region [
  ⟨some 104, .mov (.t 19), none, []⟩,
  ⟨some 105, .mov (.t 18), none, []⟩,
  ⟨some 106, .call false [] 136 [(.t 104), (.t 105)], none, []⟩,
  ⟨some 23, .mov (.t 106), none, []⟩] [] false)
  (.seq (.region [
  ⟨some 108, .load (some 1) (.t 5), none, []⟩,
  ⟨some 109, .mov (.t 1), none, []⟩,
  ⟨some 110, .mov (.t 4), none, []⟩,
  ⟨some 111, .call true [] 137 [(.t 108), (.t 109), (.t 110)], none, []⟩,
  ⟨some 107, .mov (.t 111), none, []⟩,
  ⟨some 112, .ext (.t 107) 0, none, []⟩,
  ⟨some 113, .ext (.t 107) 1, none, []⟩,
  ⟨some 114, .ext (.t 107) 2, none, []⟩,
  ⟨some 18, .mov (.t 112), none, []⟩,
  ⟨some 24, .mov (.t 113), none, []⟩,
  ⟨some 11, .mov (.t 114), none, []⟩] [] false)
  (.seq (.region [
  ⟨some 116, .load (some 1) (.t 5), none, []⟩,
  ⟨some 117, .mov (.t 1), none, []⟩,
  ⟨some 118, .mov (.t 4), none, []⟩,
  ⟨some 119, .call true [] 112 [(.t 116), (.t 117), (.t 118)], none, []⟩,
  ⟨some 115, .mov (.t 119), none, []⟩,
  ⟨some 120, .ext (.t 115) 0, none, []⟩,
  ⟨some 121, .ext (.t 115) 1, none, []⟩,
  ⟨some 122, .ext (.t 115) 2, none, []⟩,
  ⟨some 19, .mov (.t 120), none, []⟩,
  ⟨some 25, .mov (.t 121), none, []⟩,
  ⟨some 16, .mov (.t 122), none, []⟩] [] false)
  (.seq (.region [
  ⟨some 123, .mov (.t 16), none, []⟩,
  ⟨some 124, .mov (.t 11), none, []⟩,
  ⟨some 125, .call false [] 92 [(.t 123), (.t 124)], none, []⟩,
  ⟨some 26, .mov (.t 125), none, []⟩] [] false)
  (.seq (.region [
  ⟨some 126, .mov (.t 19), none, []⟩,
  ⟨some 127, .mov (.t 18), none, []⟩,
  ⟨some 128, .call false [] 136 [(.t 126), (.t 127)], none, []⟩,
  ⟨some 27, .mov (.t 128), none, []⟩] [] false)
  (.seq (.regionJ ⟨[.slot 10 .bool], [129, 130, 131, 132, 133, 134, 135, 136, 137, 138, 139, 140, 141, 142, 143, 144, 145, 146, 147, 148, 149, 150, 151, 152, 153, 154, 155, 156, 157, 158, 159, 160], [], []⟩ [
  ⟨some 129, .mov (.t 12), none, []⟩,
  ⟨some 130, .mov (.t 129), none, []⟩,
  ⟨some 131, .mov (.t 17), (some (130, true)), []⟩,
  ⟨some 132, .pick (.t 130) (.t 131) (.c (.bool false)), none, []⟩,
  ⟨some 133, .mov (.t 132), none, []⟩,
  ⟨some 134, .mov (.t 20), (some (133, true)), []⟩,
  ⟨some 135, .pick (.t 133) (.t 134) (.c (.bool false)), none, []⟩,
  ⟨some 136, .mov (.t 135), none, []⟩,
  ⟨some 137, .mov (.t 22), (some (136, true)), []⟩,
  ⟨some 138, .pick (.t 136) (.t 137) (.c (.bool false)), none, []⟩,
  ⟨some 139, .mov (.t 138), none, []⟩,
  ⟨some 140, .mov (.t 26), (some (139, true)), []⟩,
  ⟨some 141, .pick (.t 139) (.t 140) (.c (.bool false)), none, []⟩,
  ⟨some 142, .mov (.t 141), none, []⟩,
  ⟨some 143, .mov (.t 21), (some (142, true)), []⟩,
  ⟨some 144, .pick (.t 142) (.t 143) (.c (.bool false)), none, []⟩,
  ⟨some 145, .mov (.t 144), none, []⟩,
  ⟨some 146, .mov (.t 23), (some (145, true)), []⟩,
  ⟨some 147, .pick (.t 145) (.t 146) (.c (.bool false)), none, []⟩,
  ⟨some 148, .mov (.t 147), none, []⟩,
  ⟨some 149, .mov (.t 27), (some (148, true)), []⟩,
  ⟨some 150, .pick (.t 148) (.t 149) (.c (.bool false)), none, []⟩,
  ⟨some 151, .mov (.t 150), none, []⟩,
  ⟨some 152, .load (some 2) (.t 15), (some (151, true)), []⟩,
  ⟨some 153, .load (some 2) (.t 14), (some (151, true)), []⟩,
  ⟨some 154, .eqa false [(0, .int), (1, .int)] (.t 152) (.t 153), (some (151, true)), []⟩,
  ⟨some 155, .pick (.t 151) (.t 154) (.c (.bool false)), none, []⟩,
  ⟨some 156, .mov (.t 155), none, []⟩,
  ⟨some 157, .mov (.t 25), (some (156, true)), []⟩,
  ⟨some 158, .mov (.t 24), (some (156, true)), []⟩,
  ⟨some 159, .bin .int .eql (.t 157) (.t 158), (some (156, true)), []⟩,
  ⟨some 160, .pick (.t 156) (.t 159) (.c (.bool false)), none, []⟩,
  ⟨some 10, .mov (.t 160), none, []⟩] [] false)
  (.ret))))))))))))))))))))))))))
def tf118 : TFunc := { np := 5, nt := 161, res := [.tmp 10], own := false, body := tc118 }
noncomputable def S118 (F112 : (List Dim) → (List Entry) → (List Edit) → (Option ((List Entry) × Int × Err))) (F122 : (List Dim) → (List Entry) → (Option Int)) (F123 : (List Dim) → (List Int) → (Option Int)) (F134 : (List Entry) → (List Int) → (Option Cell)) (F135 : (List Dim) → (List Entry) → Edit → (Option ((List Entry) × Int))) (F136 : (List Entry) → (List Entry) → (Option Bool)) (F137 : (List Dim) → (List Entry) → (List Edit) → (Option ((List Entry) × Int × Int))) (F25 : (List Dim) → (List Entry) → (List Int) → Int → (Option ((List Entry) × Err))) (F26 : (List Dim) → (List Entry) → (List Int) → (Option (Cell × Err))) (F27 : (List Dim) → (List Entry) → (Option Err)) (F29 : (List Dim) → (List Entry) → (List Int) → (Option ((List Entry) × Err))) (F92 : Err → Int → (Option Bool)) (a0 : (List Dim)) (a1 : (List Entry)) (a2 : (List Int)) (a3 : Int) (a4 : (List Edit)) : Option Bool :=
  bno (F122 a0 a1) fun y1 =>
  bno (F27 a0 a1) fun y2 =>
  bno (F92 y2 y1) fun y3 =>
  jn (σ := Int) (α := Bool) (br (decide (y1 = (0 : Int)))
  (bno (F123 a0 a2) fun y4 =>
  inlO (some y4))
  (inlO (some y1))) fun x5 =>
  jn (σ := (Int × Int)) (α := Bool) (br (decide (x5 = (0 : Int)))
  (bno (F134 a1 a2) fun y6 =>
  inlO (some (Cell.k y6, Cell.n y6)))
  (inlO (some ((0 : Int), (0 : Int))))) fun x7 =>
  bno (F26 a0 a1 a2) fun y8 =>
  bno (F92 y8.2 x5) fun y9 =>
  jn (σ := (Int × (List Entry))) (α := Bool) (br (decide (y1 = (0 : Int)))
  (bno (F135 a0 a1 (Edit.mk a2 a3 false)) fun y10 =>
  inlO (some (y10.2, y10.1)))
  (inlO (some (y1, ([] : List Entry))))) fun x11 =>
  bno (F25 a0 a1 a2 a3) fun y12 =>
  bno (F92 y12.2 x11.1) fun y13 =>
  bno (F136 y12.1 x11.2) fun y14 =>
  jn (σ := (Int × (List Entry))) (α := Bool) (br (decide (y1 = (0 : Int)))
  (bno (F135 a0 a1 (Edit.mk a2 (0 : Int) true)) fun y15 =>
  inlO (some (y15.2, y15.1)))
  (inlO (some (y1, ([] : List Entry))))) fun x16 =>
  bno (F29 a0 a1 a2) fun y17 =>
  bno (F92 y17.2 x16.1) fun y18 =>
  bno (F136 y17.1 x16.2) fun y19 =>
  bno (F137 a0 a1 a4) fun y20 =>
  bno (F112 a0 a1 a4) fun y21 =>
  bno (F92 y21.2.2 y20.2.2) fun y22 =>
  bno (F136 y21.1 y20.1) fun y23 =>
  jn (σ := Bool) (α := Bool) (br y3
  (br y9
  (br y13
  (br y18
  (br y22
  (br y14
  (br y19
  (br y23
  (br (decide ((Cell.k y8.1) = x7.1) && (decide ((Cell.n y8.1) = x7.2) && true))
  (inlO (some (decide (y21.2.1 = y20.2.1))))
  (inlO (some false)))
  (inlO (some false)))
  (inlO (some false)))
  (inlO (some false)))
  (inlO (some false)))
  (inlO (some false)))
  (inlO (some false)))
  (inlO (some false)))
  (inlO (some false))) fun x24 =>
  some x24
theorem s118 (F112 : (List Dim) → (List Entry) → (List Edit) → (Option ((List Entry) × Int × Err))) (F122 : (List Dim) → (List Entry) → (Option Int)) (F123 : (List Dim) → (List Int) → (Option Int)) (F134 : (List Entry) → (List Int) → (Option Cell)) (F135 : (List Dim) → (List Entry) → Edit → (Option ((List Entry) × Int))) (F136 : (List Entry) → (List Entry) → (Option Bool)) (F137 : (List Dim) → (List Entry) → (List Edit) → (Option ((List Entry) × Int × Int))) (F25 : (List Dim) → (List Entry) → (List Int) → Int → (Option ((List Entry) × Err))) (F26 : (List Dim) → (List Entry) → (List Int) → (Option (Cell × Err))) (F27 : (List Dim) → (List Entry) → (Option Err)) (F29 : (List Dim) → (List Entry) → (List Int) → (Option ((List Entry) × Err))) (F92 : Err → Int → (Option Bool)) (a0 : (List Dim)) (a1 : (List Entry)) (a2 : (List Int)) (a3 : Int) (a4 : (List Edit)) : tf118.run [⟨112, [(.st .outl), (.sl .entry), (.sl .edit)], (.tp [(.sl .entry), .int, .err]), fun x => F112 x.1 x.2.1 x.2.2, false, []⟩,
  ⟨122, [(.st .outl), (.sl .entry)], .int, fun x => F122 x.1 x.2, false, []⟩,
  ⟨123, [(.st .outl), (.sl .int)], .int, fun x => F123 x.1 x.2, false, []⟩,
  ⟨134, [(.sl .entry), (.sl .int)], (.st .cell), fun x => F134 x.1 x.2, false, []⟩,
  ⟨135, [(.st .outl), (.sl .entry), (.st .edit)], (.tp [(.sl .entry), .int]), fun x => F135 x.1 x.2.1 x.2.2, false, []⟩,
  ⟨136, [(.sl .entry), (.sl .entry)], .bool, fun x => F136 x.1 x.2, false, []⟩,
  ⟨137, [(.st .outl), (.sl .entry), (.sl .edit)], (.tp [(.sl .entry), .int, .int]), fun x => F137 x.1 x.2.1 x.2.2, false, []⟩,
  ⟨25, [(.st .outl), (.sl .entry), (.sl .int), .int], (.tp [(.sl .entry), .err]), fun x => F25 x.1 x.2.1 x.2.2.1 x.2.2.2, false, []⟩,
  ⟨26, [(.st .outl), (.sl .entry), (.sl .int)], (.tp [(.st .cell), .err]), fun x => F26 x.1 x.2.1 x.2.2, false, []⟩,
  ⟨27, [(.st .outl), (.sl .entry)], .err, fun x => F27 x.1 x.2, false, []⟩,
  ⟨29, [(.st .outl), (.sl .entry), (.sl .int)], (.tp [(.sl .entry), .err]), fun x => F29 x.1 x.2.1 x.2.2, false, []⟩,
  ⟨92, [.err, .int], .bool, fun x => F92 x.1 x.2, false, []⟩] [(.st .outl), (.sl .entry), (.sl .int), .int, (.sl .edit)] .bool (a0, a1, a2, a3, a4) = S118 F112 F122 F123 F134 F135 F136 F137 F25 F26 F27 F29 F92 a0 a1 a2 a3 a4 := by kernel_rfl
noncomputable def P118 (a0 : (List Dim)) (a1 : (List Entry)) (a2 : (List Int)) (a3 : Int) (a4 : (List Edit)) : Option Bool := S118 P112 P122 P123 P134 P135 P136 P137 P25 P26 P27 P29 P92 a0 a1 a2 a3 a4
noncomputable def k118 : CSpec := ⟨118, [(.st .outl), (.sl .entry), (.sl .int), .int, (.sl .edit)], .bool, fun x => P118 x.1 x.2.1 x.2.2.1 x.2.2.2.1 x.2.2.2.2, false, []⟩
theorem r118 {S : Seat} (h : Ok1 S 118 tf118) (h112 : Rt S k112) (h122 : Rt S k122) (h123 : Rt S k123) (h134 : Rt S k134) (h135 : Rt S k135) (h136 : Rt S k136) (h137 : Rt S k137) (h25 : Rt S k25) (h26 : Rt S k26) (h27 : Rt S k27) (h29 : Rt S k29) (h92 : Rt S k92) : Rt S k118 := fun x y hy =>
  Ok1.sound h (C := [k112, k122, k123, k134, k135, k136, k137, k25, k26, k27, k29, k92]) (CSound.cons h112 (CSound.cons h122 (CSound.cons h123 (CSound.cons h134 (CSound.cons h135 (CSound.cons h136 (CSound.cons h137 (CSound.cons h25 (CSound.cons h26 (CSound.cons h27 (CSound.cons h29 (CSound.cons h92 CSound.nil)))))))))))) rfl rfl rfl ((s118 P112 P122 P123 P134 P135 P136 P137 P25 P26 P27 P29 P92 x.1 x.2.1 x.2.2.1 x.2.2.2.1 x.2.2.2.2).trans hy) rfl

end Ab
