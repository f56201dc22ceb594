/-
  Functions of the program as typed code, what they come to, and their contracts: written by program (mk.py).
-/
import Derived.Test.YtkedlclobjhkfaaDoorTL
import Derived.KernelRfl
import Derived.Test.YtkedlclobjhkfaaDoorMO
import Derived.Test.YtkedlclobjhkfaaDoorMR
import Derived.Test.YtkedlclobjhkfaaDoorMS
namespace Ab
open Go
set_option linter.unusedVariables false
set_option maxRecDepth 100000

/- tallyhall/tallylaw1.OutlineTells -/
def tc88 : TCode :=
  .seq (.region [
  ⟨some 3, .box (.t 0), none, []⟩,
  ⟨some 4, .box (.t 1), none, []⟩,
  ⟨some 6, .mov (.c (.bool false)), none, []⟩] [] false)
  (.seq (.region [
  ⟨some 22, .load (some 1) (.t 3), none, []⟩,
  ⟨some 23, .call false [] 94 [(.t 22)], none, []⟩,
  ⟨some 21, .mov (.t 23), none, []⟩,
  ⟨some 24, .ext (.t 21) 0, none, []⟩,
  ⟨some 25, .ext (.t 21) 1, none, []⟩,
  ⟨some 26, .ext (.t 21) 2, none, []⟩,
  ⟨some 7, .mov (.t 24), none, []⟩,
  ⟨some 8, .mov (.t 25), none, []⟩,
  ⟨some 9, .mov (.t 26), none, []⟩] [] false)
  (.seq (.region [
  ⟨some 28, .load (some 1) (.t 3), none, []⟩,
  ⟨some 29, .call false [] 14 [(.t 28)], none, []⟩,
  ⟨some 27, .mov (.t 29), none, []⟩,
  ⟨some 30, .ext (.t 27) 0, none, []⟩,
  ⟨some 31, .ext (.t 27) 1, none, []⟩,
  ⟨some 32, .ext (.t 27) 2, none, []⟩,
  ⟨some 10, .mov (.t 30), none, []⟩,
  ⟨some 11, .mov (.t 31), none, []⟩,
  ⟨some 12, .mov (.t 32), none, []⟩] [] false)
  (.seq (.region [
  ⟨some 33, .mov (.t 12), none, []⟩,
  ⟨some 34, .mov (.t 9), none, []⟩,
  ⟨some 35, .call false [] 92 [(.t 33), (.t 34)], none, []⟩,
  ⟨some 13, .mov (.t 35), none, []⟩] [] false)
  (.seq (.region [
  ⟨some 37, .load (some 3) (.t 4), none, []⟩,
  ⟨some 38, .call false [] 95 [(.t 37)], none, []⟩,
  ⟨some 36, .mov (.t 38), none, []⟩,
  ⟨some 39, .ext (.t 36) 0, none, []⟩,
  ⟨some 40, .ext (.t 36) 1, none, []⟩,
  ⟨some 14, .mov (.t 39), none, []⟩,
  ⟨some 9, .mov (.t 40), none, []⟩] [] false)
  (.seq (.region [
  ⟨some 42, .load (some 3) (.t 4), none, []⟩,
  ⟨some 43, .call false [] 15 [(.t 42)], none, []⟩,
  ⟨some 41, .mov (.t 43), none, []⟩,
  ⟨some 44, .ext (.t 41) 0, none, []⟩,
  ⟨some 45, .ext (.t 41) 1, none, []⟩,
  ⟨some 15, .mov (.t 44), none, []⟩,
  ⟨some 12, .mov (.t 45), none, []⟩] [] false)
  (.seq (.region [
  ⟨some 46, .mov (.t 12), none, []⟩,
  ⟨some 47, .mov (.t 9), none, []⟩,
  ⟨some 48, .call false [] 92 [(.t 46), (.t 47)], none, []⟩,
  ⟨some 16, .mov (.t 48), none, []⟩] [] false)
  (.seq (.region [
  ⟨some 17, .mov (.c (.int .i64 0)), none, []⟩] [] false)
  (.seq (.seq (.region [
  ⟨some 49, .mov (.t 9), none, []⟩,
  ⟨some 50, .bin .int .eql (.t 49) (.c (.int .i64 0)), none, []⟩] [] false)
  (.condJ ⟨[.slot 9 .int, .slot 17 .int], [51, 52, 53, 54, 55], [], []⟩ (.t 50)
    (.seq (.region [
  ⟨some 51, .load (some 3) (.t 4), none, []⟩,
  ⟨some 52, .mov (.t 2), none, []⟩,
  ⟨some 53, .call false [] 96 [(.t 51), (.t 52)], none, []⟩,
  ⟨some 17, .mov (.t 53), none, []⟩] [] false)
    (.seq (.region [
  ⟨some 54, .mov (.t 17), none, []⟩,
  ⟨some 55, .bin .int .lss (.t 54) (.c (.int .i64 0)), none, []⟩] [] false)
    (.condJ ⟨[.slot 9 .int, .slot 17 .int], [], [], []⟩ (.t 55)
      (.seq (.region [
  ⟨some 17, .mov (.c (.int .i64 0)), none, []⟩] [] false)
      (.region [
  ⟨some 9, .mov (.c (.int .i64 5)), none, []⟩] [] false))
      (.skip))))
    (.skip)))
  (.seq (.region [
  ⟨some 57, .load (some 3) (.t 4), none, []⟩,
  ⟨some 58, .mov (.t 2), none, []⟩,
  ⟨some 59, .call false [] 13 [(.t 57), (.t 58)], none, []⟩,
  ⟨some 56, .mov (.t 59), none, []⟩,
  ⟨some 60, .ext (.t 56) 0, none, []⟩,
  ⟨some 61, .ext (.t 56) 1, none, []⟩,
  ⟨some 18, .mov (.t 60), none, []⟩,
  ⟨some 12, .mov (.t 61), none, []⟩] [] false)
  (.seq (.region [
  ⟨some 62, .mov (.t 12), none, []⟩,
  ⟨some 63, .mov (.t 9), none, []⟩,
  ⟨some 64, .call false [] 92 [(.t 62), (.t 63)], none, []⟩,
  ⟨some 19, .mov (.t 64), none, []⟩] [] false)
  (.seq (.region [
  ⟨some 65, .mov (.t 2), none, []⟩,
  ⟨some 66, .call false [] 41 [(.t 65)], none, []⟩,
  ⟨some 67, .mov (.t 2), none, []⟩,
  ⟨some 68, .call false [] 97 [(.t 67)], none, []⟩,
  ⟨some 69, .call false [] 92 [(.t 66), (.t 68)], none, []⟩,
  ⟨some 20, .mov (.t 69), none, []⟩] [] false)
  (.seq (.regionJ ⟨[.slot 6 .bool], [70, 71, 72, 73, 74, 75, 76, 77, 78, 79, 80, 81, 82, 83, 84, 85, 86, 87, 88, 89, 90, 91, 92, 93, 94, 95, 96, 97, 98, 99], [], []⟩ [
  ⟨some 70, .mov (.t 13), none, []⟩,
  ⟨some 71, .mov (.t 70), none, []⟩,
  ⟨some 72, .mov (.t 16), (some (71, true)), []⟩,
  ⟨some 73, .pick (.t 71) (.t 72) (.c (.bool false)), none, []⟩,
  ⟨some 74, .mov (.t 73), none, []⟩,
  ⟨some 75, .mov (.t 19), (some (74, true)), []⟩,
  ⟨some 76, .pick (.t 74) (.t 75) (.c (.bool false)), none, []⟩,
  ⟨some 77, .mov (.t 76), none, []⟩,
  ⟨some 78, .mov (.t 20), (some (77, true)), []⟩,
  ⟨some 79, .pick (.t 77) (.t 78) (.c (.bool false)), none, []⟩,
  ⟨some 80, .mov (.t 79), none, []⟩,
  ⟨some 81, .mov (.t 10), (some (80, true)), []⟩,
  ⟨some 82, .mov (.t 7), (some (80, true)), []⟩,
  ⟨some 83, .bin .int .eql (.t 81) (.t 82), (some (80, true)), []⟩,
  ⟨some 84, .pick (.t 80) (.t 83) (.c (.bool false)), none, []⟩,
  ⟨some 85, .mov (.t 84), none, []⟩,
  ⟨some 86, .mov (.t 11), (some (85, true)), []⟩,
  ⟨some 87, .mov (.t 8), (some (85, true)), []⟩,
  ⟨some 88, .bin .int .eql (.t 86) (.t 87), (some (85, true)), []⟩,
  ⟨some 89, .pick (.t 85) (.t 88) (.c (.bool false)), none, []⟩,
  ⟨some 90, .mov (.t 89), none, []⟩,
  ⟨some 91, .mov (.t 15), (some (90, true)), []⟩,
  ⟨some 92, .mov (.t 14), (some (90, true)), []⟩,
  ⟨some 93, .bin .int .eql (.t 91) (.t 92), (some (90, true)), []⟩,
  ⟨some 94, .pick (.t 90) (.t 93) (.c (.bool false)), none, []⟩,
  ⟨some 95, .mov (.t 94), none, []⟩,
  ⟨some 96, .mov (.t 18), (some (95, true)), []⟩,
  ⟨some 97, .mov (.t 17), (some (95, true)), []⟩,
  ⟨some 98, .bin .int .eql (.t 96) (.t 97), (some (95, true)), []⟩,
  ⟨some 99, .pick (.t 95) (.t 98) (.c (.bool false)), none, []⟩,
  ⟨some 6, .mov (.t 99), none, []⟩] [] false)
  (.ret)))))))))))))
def tf88 : TFunc := { np := 3, nt := 100, res := [.tmp 6], own := false, body := tc88 }
noncomputable def S88 (F13 : Dim → ByteArray → (Option (Int × Err))) (F14 : (List Dim) → (Option (Int × Int × Err))) (F15 : Dim → (Option (Int × Err))) (F41 : ByteArray → (Option Err)) (F92 : Err → Int → (Option Bool)) (F94 : (List Dim) → (Option (Int × Int × Int))) (F95 : Dim → (Option (Int × Int))) (F96 : Dim → ByteArray → (Option Int)) (F97 : ByteArray → (Option Int)) (a0 : (List Dim)) (a1 : Dim) (a2 : ByteArray) : Option Bool :=
  bno (F94 a0) fun y1 =>
  bno (F14 a0) fun y2 =>
  bno (F92 y2.2.2 y1.2.2) fun y3 =>
  bno (F95 a1) fun y4 =>
  bno (F15 a1) fun y5 =>
  bno (F92 y5.2 y4.2) fun y6 =>
  jn (σ := (Int × Int)) (α := Bool) (br (decide (y4.2 = (0 : Int)))
  (bno (F96 a1 a2) fun y7 =>
  jn (σ := (Int × Int)) (α := (Sum (Int × Int) Bool)) (br (decide (y7 < (0 : Int)))
  (inlO (some ((5 : Int), (0 : Int))))
  (inlO (some (y4.2, y7)))) fun x8 =>
  inlO (some (x8.1, x8.2)))
  (inlO (some (y4.2, (0 : Int))))) fun x9 =>
  bno (F13 a1 a2) fun y10 =>
  bno (F92 y10.2 x9.1) fun y11 =>
  bno (F41 a2) fun y12 =>
  bno (F97 a2) fun y13 =>
  bno (F92 y12 y13) fun y14 =>
  jn (σ := Bool) (α := Bool) (br y3
  (br y6
  (br y11
  (br y14
  (br (decide (y2.1 = y1.1))
  (br (decide (y2.2.1 = y1.2.1))
  (br (decide (y5.1 = y4.1))
  (inlO (some (decide (y10.1 = x9.2))))
  (inlO (some false)))
  (inlO (some false)))
  (inlO (some false)))
  (inlO (some false)))
  (inlO (some false)))
  (inlO (some false)))
  (inlO (some false))) fun x15 =>
  some x15
theorem s88 (F13 : Dim → ByteArray → (Option (Int × Err))) (F14 : (List Dim) → (Option (Int × Int × Err))) (F15 : Dim → (Option (Int × Err))) (F41 : ByteArray → (Option Err)) (F92 : Err → Int → (Option Bool)) (F94 : (List Dim) → (Option (Int × Int × Int))) (F95 : Dim → (Option (Int × Int))) (F96 : Dim → ByteArray → (Option Int)) (F97 : ByteArray → (Option Int)) (a0 : (List Dim)) (a1 : Dim) (a2 : ByteArray) : tf88.run [⟨13, [(.st .dim), .str], (.tp [.int, .err]), fun x => F13 x.1 x.2, false⟩,
  ⟨14, [(.st .outl)], (.tp [.int, .int, .err]), fun x => F14 x, false⟩,
  ⟨15, [(.st .dim)], (.tp [.int, .err]), fun x => F15 x, false⟩,
  ⟨41, [.str], .err, fun x => F41 x, false⟩,
  ⟨92, [.err, .int], .bool, fun x => F92 x.1 x.2, false⟩,
  ⟨94, [(.st .outl)], (.tp [.int, .int, .int]), fun x => F94 x, false⟩,
  ⟨95, [(.st .dim)], (.tp [.int, .int]), fun x => F95 x, false⟩,
  ⟨96, [(.st .dim), .str], .int, fun x => F96 x.1 x.2, false⟩,
  ⟨97, [.str], .int, fun x => F97 x, false⟩] [(.st .outl), (.st .dim), .str] .bool (a0, a1, a2) = S88 F13 F14 F15 F41 F92 F94 F95 F96 F97 a0 a1 a2 := by kernel_rfl
noncomputable def P88 (a0 : (List Dim)) (a1 : Dim) (a2 : ByteArray) : Option Bool := S88 P13 P14 P15 P41 P92 P94 P95 P96 P97 a0 a1 a2
noncomputable def k88 : CSpec := ⟨88, [(.st .outl), (.st .dim), .str], .bool, fun x => P88 x.1 x.2.1 x.2.2, false⟩
theorem r88 {S : Seat} (h : Ok1 S 88 tf88) (h13 : Rt S k13) (h14 : Rt S k14) (h15 : Rt S k15) (h41 : Rt S k41) (h92 : Rt S k92) (h94 : Rt S k94) (h95 : Rt S k95) (h96 : Rt S k96) (h97 : Rt S k97) : Rt S k88 := fun x y hy =>
  Ok1.sound h (C := [k13, k14, k15, k41, k92, k94, k95, k96, k97]) (CSound.cons h13 (CSound.cons h14 (CSound.cons h15 (CSound.cons h41 (CSound.cons h92 (CSound.cons h94 (CSound.cons h95 (CSound.cons h96 (CSound.cons h97 CSound.nil))))))))) rfl rfl rfl ((s88 P13 P14 P15 P41 P92 P94 P95 P96 P97 x.1 x.2.1 x.2.2).trans hy)

end Ab
