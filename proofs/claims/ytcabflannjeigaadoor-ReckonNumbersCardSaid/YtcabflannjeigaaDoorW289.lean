/-
  Functions of the program as typed code, what they come to, and their contracts: written by program (mk.py).
-/
import Derived.Test.YtcabflannjeigaaDoorB2
import Derived.KernelRfl
import Derived.Test.YtcabflannjeigaaDoorMC
import Derived.Test.YtcabflannjeigaaDoorMPa
import Derived.Test.YtcabflannjeigaaDoorMRc
import Derived.Test.YtcabflannjeigaaDoorMRk
namespace Ab
open Go
set_option linter.unusedVariables false
set_option maxRecDepth 100000

/- tallyhall/tallylaw4.ReckonNumbers -/
def tc289 : TCode :=
  .seq (.region [
  ⟨some 6, .mov (.c (.bool false)), none, []⟩] [] false)
  (.seq (.region [
  ⟨some 21, .call false [] 8 [(.c (.int .i64 5))], none, []⟩,
  ⟨some 7, .alloc [.int .i64 0, .int .i64 0], none, []⟩,
  ⟨none, .store 2 (.t 7) (.t 21), none, []⟩] [] false)
  (.seq (.seq (.region [
  ⟨some 22, .fa 1 (.t 7), none, []⟩,
  ⟨some 23, .load none (.t 22), none, []⟩,
  ⟨some 24, .bin .int .neq (.t 23) (.c (.int .i64 5)), none, []⟩] [] false)
  (.cond (.t 24)
    (.seq (.region [
  ⟨some 6, .mov (.c (.bool false)), none, []⟩] [] false)
    (.ret))
    (.skip)))
  (.seq (.seq (.regionJ ⟨[.slot 46 .bool], [25, 26, 27, 28, 29, 30, 31, 32, 33, 34, 35, 36, 37, 38, 39, 40, 41, 42, 43, 44, 45], [], []⟩ [
  ⟨some 25, .mov (.t 0), none, []⟩,
  ⟨some 26, .bin .int .lss (.t 25) (.c (.int .i64 0)), none, []⟩,
  ⟨some 27, .mov (.t 26), none, []⟩,
  ⟨some 28, .mov (.t 0), (some (27, false)), []⟩,
  ⟨some 29, .bin .int .gtr (.t 28) (.c (.int .i64 1000)), (some (27, false)), []⟩,
  ⟨some 30, .pick (.t 27) (.c (.bool true)) (.t 29), none, []⟩,
  ⟨some 31, .mov (.t 30), none, []⟩,
  ⟨some 32, .mov (.t 1), (some (31, false)), []⟩,
  ⟨some 33, .bin .int .lss (.t 32) (.c (.int .i64 0)), (some (31, false)), []⟩,
  ⟨some 34, .pick (.t 31) (.c (.bool true)) (.t 33), none, []⟩,
  ⟨some 35, .mov (.t 34), none, []⟩,
  ⟨some 36, .mov (.t 1), (some (35, false)), []⟩,
  ⟨some 37, .bin .int .gtr (.t 36) (.c (.int .i64 1000)), (some (35, false)), []⟩,
  ⟨some 38, .pick (.t 35) (.c (.bool true)) (.t 37), none, []⟩,
  ⟨some 39, .mov (.t 38), none, []⟩,
  ⟨some 40, .mov (.t 2), (some (39, false)), []⟩,
  ⟨some 41, .bin .int .lss (.t 40) (.c (.int .i64 0)), (some (39, false)), []⟩,
  ⟨some 42, .pick (.t 39) (.c (.bool true)) (.t 41), none, []⟩,
  ⟨some 43, .mov (.t 42), none, []⟩,
  ⟨some 44, .mov (.t 2), (some (43, false)), []⟩,
  ⟨some 45, .bin .int .gtr (.t 44) (.c (.int .i64 1000)), (some (43, false)), []⟩,
  ⟨some 46, .pick (.t 43) (.c (.bool true)) (.t 45), none, []⟩] [] false)
  (.cond (.t 46)
    (.seq (.region [
  ⟨some 6, .mov (.c (.bool true)), none, []⟩] [] false)
    (.ret))
    (.skip)))
  (.seq (.region [
  ⟨some 47, .mov (.t 0), none, []⟩,
  ⟨some 48, .call false [] 159 [(.t 47)], none, []⟩,
  ⟨some 8, .mov (.t 48), none, []⟩] [] false)
  (.seq (.region [
  ⟨some 49, .mov (.t 1), none, []⟩,
  ⟨some 50, .call false [] 159 [(.t 49)], none, []⟩,
  ⟨some 9, .mov (.t 50), none, []⟩] [] false)
  (.seq (.region [
  ⟨some 51, .mov (.t 2), none, []⟩,
  ⟨some 52, .call false [] 159 [(.t 51)], none, []⟩,
  ⟨some 10, .mov (.t 52), none, []⟩] [] false)
  (.seq (.region [
  ⟨some 54, .mov (.t 8), none, []⟩,
  ⟨some 55, .bin .str .add (.t 54) (.c (.string ⟨#[42]⟩)), none, []⟩,
  ⟨some 56, .mov (.t 9), none, []⟩,
  ⟨some 57, .bin .str .add (.t 55) (.t 56), none, []⟩,
  ⟨some 58, .bin .str .add (.t 57) (.c (.string ⟨#[43]⟩)), none, []⟩,
  ⟨some 59, .mov (.t 10), none, []⟩,
  ⟨some 60, .bin .str .add (.t 58) (.t 59), none, []⟩,
  ⟨some 61, .call true [] 248 [(.t 60)], none, []⟩,
  ⟨some 53, .mov (.t 61), none, []⟩,
  ⟨some 62, .ext (.t 53) 0, none, []⟩,
  ⟨some 63, .ext (.t 53) 1, none, []⟩,
  ⟨some 64, .ext (.t 53) 2, none, []⟩,
  ⟨some 11, .mov (.t 62), none, []⟩,
  ⟨some 12, .mov (.t 63), none, []⟩,
  ⟨some 13, .mov (.t 64), none, []⟩] [] false)
  (.seq (.region [
  ⟨some 66, .mov (.t 8), none, []⟩,
  ⟨some 67, .bin .str .add (.t 66) (.c (.string ⟨#[45, 40]⟩)), none, []⟩,
  ⟨some 68, .mov (.t 9), none, []⟩,
  ⟨some 69, .bin .str .add (.t 67) (.t 68), none, []⟩,
  ⟨some 70, .bin .str .add (.t 69) (.c (.string ⟨#[45]⟩)), none, []⟩,
  ⟨some 71, .mov (.t 10), none, []⟩,
  ⟨some 72, .bin .str .add (.t 70) (.t 71), none, []⟩,
  ⟨some 73, .bin .str .add (.t 72) (.c (.string ⟨#[41]⟩)), none, []⟩,
  ⟨some 74, .call true [] 248 [(.t 73)], none, []⟩,
  ⟨some 65, .mov (.t 74), none, []⟩,
  ⟨some 75, .ext (.t 65) 0, none, []⟩,
  ⟨some 76, .ext (.t 65) 1, none, []⟩,
  ⟨some 77, .ext (.t 65) 2, none, []⟩,
  ⟨some 14, .mov (.t 75), none, []⟩,
  ⟨some 15, .mov (.t 76), none, []⟩,
  ⟨some 16, .mov (.t 77), none, []⟩] [] false)
  (.seq (.region [
  ⟨some 79, .mov (.t 11), none, []⟩,
  ⟨some 80, .call false [] 293 [(.t 79), (.c (.slice none 0 0)), (.c (.slice none 0 0))], none, []⟩,
  ⟨some 78, .mov (.t 80), none, []⟩,
  ⟨some 81, .ext (.t 78) 0, none, []⟩,
  ⟨some 82, .ext (.t 78) 1, none, []⟩,
  ⟨some 17, .alloc [.int .i64 0, .int .i64 0], none, []⟩,
  ⟨none, .store 2 (.t 17) (.t 81), none, []⟩,
  ⟨some 18, .mov (.t 82), none, []⟩] [] false)
  (.seq (.region [
  ⟨some 84, .mov (.t 14), none, []⟩,
  ⟨some 85, .call false [] 293 [(.t 84), (.c (.slice none 0 0)), (.c (.slice none 0 0))], none, []⟩,
  ⟨some 83, .mov (.t 85), none, []⟩,
  ⟨some 86, .ext (.t 83) 0, none, []⟩,
  ⟨some 87, .ext (.t 83) 1, none, []⟩,
  ⟨some 19, .alloc [.int .i64 0, .int .i64 0], none, []⟩,
  ⟨none, .store 2 (.t 19) (.t 86), none, []⟩,
  ⟨some 20, .mov (.t 87), none, []⟩] [] false)
  (.seq (.regionJ ⟨[.slot 6 .bool], [88, 89, 90, 91, 92, 93, 94, 95, 96, 97, 98, 99, 100, 101, 102, 103, 104, 105, 106, 107, 108, 109, 110, 111, 112, 113, 114, 115, 116, 117, 118, 119, 120, 121], [], []⟩ [
  ⟨some 88, .mov (.t 13), none, []⟩,
  ⟨some 89, .eqn false false (.t 88), none, [0]⟩,
  ⟨some 90, .mov (.t 89), none, [1]⟩,
  ⟨some 91, .mov (.t 16), (some (90, true)), [2]⟩,
  ⟨some 92, .eqn false false (.t 91), (some (90, true)), [3, 2]⟩,
  ⟨some 93, .pick (.t 90) (.t 92) (.c (.bool false)), none, [2, 4]⟩,
  ⟨some 94, .mov (.t 93), none, [5, 2]⟩,
  ⟨some 95, .mov (.t 18), (some (94, true)), [6]⟩,
  ⟨some 96, .eqn false false (.t 95), (some (94, true)), [7, 6]⟩,
  ⟨some 97, .pick (.t 94) (.t 96) (.c (.bool false)), none, [6, 8]⟩,
  ⟨some 98, .mov (.t 97), none, [9, 6]⟩,
  ⟨some 99, .mov (.t 20), (some (98, true)), [10]⟩,
  ⟨some 100, .eqn false false (.t 99), (some (98, true)), [11, 10]⟩,
  ⟨some 101, .pick (.t 98) (.t 100) (.c (.bool false)), none, [10, 12]⟩,
  ⟨some 102, .mov (.t 101), none, [13, 10]⟩,
  ⟨some 103, .load (some 2) (.t 17), (some (102, true)), [14]⟩,
  ⟨some 104, .mov (.t 0), (some (102, true)), [14]⟩,
  ⟨some 105, .mov (.t 1), (some (102, true)), [14]⟩,
  ⟨some 106, .bin .int .mul (.t 104) (.t 105), (some (102, true)), [16, 17, 14]⟩,
  ⟨some 107, .mov (.t 2), (some (102, true)), [14]⟩,
  ⟨some 108, .bin .int .add (.t 106) (.t 107), (some (102, true)), [18, 19, 14]⟩,
  ⟨some 109, .call false [] 8 [(.t 108)], (some (102, true)), [20, 14, 14]⟩,
  ⟨some 110, .eqa false [(0, .int), (1, .int)] (.t 103) (.t 109), (some (102, true)), [15, 21, 14]⟩,
  ⟨some 111, .pick (.t 102) (.t 110) (.c (.bool false)), none, [14, 22]⟩,
  ⟨some 112, .mov (.t 111), none, [23, 21]⟩,
  ⟨some 113, .load (some 2) (.t 19), (some (112, true)), [24]⟩,
  ⟨some 114, .mov (.t 0), (some (112, true)), [24]⟩,
  ⟨some 115, .mov (.t 1), (some (112, true)), [24]⟩,
  ⟨some 116, .mov (.t 2), (some (112, true)), [24]⟩,
  ⟨some 117, .bin .int .sub (.t 115) (.t 116), (some (112, true)), [27, 28, 24]⟩,
  ⟨some 118, .bin .int .sub (.t 114) (.t 117), (some (112, true)), [26, 29, 24]⟩,
  ⟨some 119, .call false [] 8 [(.t 118)], (some (112, true)), [30, 24, 24]⟩,
  ⟨some 120, .eqa false [(0, .int), (1, .int)] (.t 113) (.t 119), (some (112, true)), [25, 31, 24]⟩,
  ⟨some 121, .pick (.t 112) (.t 120) (.c (.bool false)), none, [24, 32]⟩,
  ⟨some 6, .mov (.t 121), none, [33, 31, 0, 1, 2, 3, 4, 5, 6, 7, 8, 9, 10, 11, 12, 13, 14, 15, 16, 17, 18, 19, 20, 21, 22, 23, 24, 25, 26, 27, 28, 29, 30, 31, 32, 33]⟩] [] true)
  (.ret))))))))))))
def tf289 : TFunc := { np := 3, nt := 122, res := [.tmp 6], own := false, body := tc289 }
noncomputable def S289 (F159 : Int → (Option ByteArray)) (F248 : ByteArray → (Option ((List Node) × Int × Err))) (F293 : (List Node) → (List ByteArray) → (List Cell) → (Option (Cell × Err))) (F8 : Int → (Option Cell)) (a0 : Int) (a1 : Int) (a2 : Int) : Option Bool :=
  bno (F8 (5 : Int)) fun y1 =>
  br (decide (¬ (Cell.n y1) = (5 : Int)))
  (some false)
  (jn (σ := Bool) (α := Bool) (br (decide (a0 < (0 : Int)))
  (inlO (some true))
  (br (decide ((1000 : Int) < a0))
  (inlO (some true))
  (br (decide (a1 < (0 : Int)))
  (inlO (some true))
  (br (decide ((1000 : Int) < a1))
  (inlO (some true))
  (br (decide (a2 < (0 : Int)))
  (inlO (some true))
  (inlO (some (decide ((1000 : Int) < a2))))))))) fun x2 =>
  br x2
  (some true)
  (bno (F159 a0) fun y3 =>
  bno (F159 a1) fun y4 =>
  bno (F159 a2) fun y5 =>
  ck (decide (ByteArray.size y3 + ByteArray.size (⟨#[42]⟩ : ByteArray) ≤ 9223372036854775807)) <|
  ck (decide (ByteArray.size (y3 ++ (⟨#[42]⟩ : ByteArray)) + ByteArray.size y4 ≤ 9223372036854775807)) <|
  ck (decide (ByteArray.size ((y3 ++ (⟨#[42]⟩ : ByteArray)) ++ y4) + ByteArray.size (⟨#[43]⟩ : ByteArray) ≤ 9223372036854775807)) <|
  ck (decide (ByteArray.size (((y3 ++ (⟨#[42]⟩ : ByteArray)) ++ y4) ++ (⟨#[43]⟩ : ByteArray)) + ByteArray.size y5 ≤ 9223372036854775807)) <|
  bno (F248 ((((y3 ++ (⟨#[42]⟩ : ByteArray)) ++ y4) ++ (⟨#[43]⟩ : ByteArray)) ++ y5)) fun y6 =>
  ck (decide (ByteArray.size y3 + ByteArray.size (⟨#[45, 40]⟩ : ByteArray) ≤ 9223372036854775807)) <|
  ck (decide (ByteArray.size (y3 ++ (⟨#[45, 40]⟩ : ByteArray)) + ByteArray.size y4 ≤ 9223372036854775807)) <|
  ck (decide (ByteArray.size ((y3 ++ (⟨#[45, 40]⟩ : ByteArray)) ++ y4) + ByteArray.size (⟨#[45]⟩ : ByteArray) ≤ 9223372036854775807)) <|
  ck (decide (ByteArray.size (((y3 ++ (⟨#[45, 40]⟩ : ByteArray)) ++ y4) ++ (⟨#[45]⟩ : ByteArray)) + ByteArray.size y5 ≤ 9223372036854775807)) <|
  ck (decide (ByteArray.size ((((y3 ++ (⟨#[45, 40]⟩ : ByteArray)) ++ y4) ++ (⟨#[45]⟩ : ByteArray)) ++ y5) + ByteArray.size (⟨#[41]⟩ : ByteArray) ≤ 9223372036854775807)) <|
  bno (F248 (((((y3 ++ (⟨#[45, 40]⟩ : ByteArray)) ++ y4) ++ (⟨#[45]⟩ : ByteArray)) ++ y5) ++ (⟨#[41]⟩ : ByteArray))) fun y7 =>
  bno (F293 y6.1 ([] : List ByteArray) ([] : List Cell)) fun y8 =>
  bno (F293 y7.1 ([] : List ByteArray) ([] : List Cell)) fun y9 =>
  jn (σ := Bool) (α := Bool) (br (Err.isNil y6.2.2)
  (br (Err.isNil y7.2.2)
  (br (Err.isNil y8.2)
  (br (Err.isNil y9.2)
  (bno (F8 (wi ((wi (a0 * a1)) + a2))) fun y10 =>
  br (decide ((Cell.k y8.1) = (Cell.k y10)) && (decide ((Cell.n y8.1) = (Cell.n y10)) && true))
  (bno (F8 (wi (a0 - (wi (a1 - a2))))) fun y11 =>
  inlO (some (decide ((Cell.k y9.1) = (Cell.k y11)) && (decide ((Cell.n y9.1) = (Cell.n y11)) && true))))
  (inlO (some false)))
  (inlO (some false)))
  (inlO (some false)))
  (inlO (some false)))
  (inlO (some false))) fun x12 =>
  some x12))
theorem s289 (F159 : Int → (Option ByteArray)) (F248 : ByteArray → (Option ((List Node) × Int × Err))) (F293 : (List Node) → (List ByteArray) → (List Cell) → (Option (Cell × Err))) (F8 : Int → (Option Cell)) (a0 : Int) (a1 : Int) (a2 : Int) : tf289.run [⟨159, [.int], .str, fun x => F159 x, false, []⟩,
  ⟨248, [.str], (.tp [(.sl .node), .int, .err]), fun x => F248 x, false, []⟩,
  ⟨293, [(.sl .node), (.sl .str), (.sl .cell)], (.tp [(.st .cell), .err]), fun x => F293 x.1 x.2.1 x.2.2, false, []⟩,
  ⟨8, [.int], (.st .cell), fun x => F8 x, false, []⟩] [.int, .int, .int] .bool (a0, a1, a2) = S289 F159 F248 F293 F8 a0 a1 a2 := by kernel_rfl
noncomputable def P289 (a0 : Int) (a1 : Int) (a2 : Int) : Option Bool := S289 P159 P248 P293 P8 a0 a1 a2
noncomputable def k289 : CSpec := ⟨289, [.int, .int, .int], .bool, fun x => P289 x.1 x.2.1 x.2.2, false, []⟩
theorem r289 {S : Seat} (h : Ok1 S 289 tf289) (h159 : Rt S k159) (h248 : Rt S k248) (h293 : Rt S k293) (h8 : Rt S k8) : Rt S k289 := fun x y hy =>
  Ok1.sound h (C := [k159, k248, k293, k8]) (CSound.cons h159 (CSound.cons h248 (CSound.cons h293 (CSound.cons h8 CSound.nil)))) rfl rfl rfl ((s289 P159 P248 P293 P8 x.1 x.2.1 x.2.2).trans hy) rfl

end Ab
