/-
  Functions of the program as typed code, what they come to, and their contracts: written by program (mk.py).
-/
import Derived.Test.YtkedlclobjhkfaaB2
import Derived.KernelRfl
import Derived.Test.YtkedlclobjhkfaaMC
import Derived.Test.YtkedlclobjhkfaaMI
import Derived.Test.YtkedlclobjhkfaaMIn
import Derived.Test.YtkedlclobjhkfaaMS
namespace Ab
open Go
set_option linter.unusedVariables false
set_option maxRecDepth 100000

/- tallyhall/tallylaw1.InputStays -/
def tc6 : TCode :=
  .seq (.region [
  ⟨some 5, .box (.t 0), none, []⟩,
  ⟨some 10, .mov (.c (.bool false)), none, []⟩] [] false)
  (.seq (.region [
  ⟨some 26, .build [.string ⟨#[]⟩, .int .i64 0, .int .i64 0, .string ⟨#[]⟩] [(0, 1, (.c (.string ⟨#[98]⟩))), (1, 1, (.c (.int .i64 (-1))))], none, []⟩,
  ⟨some 27, .bslice false 4 [.string ⟨#[]⟩, .int .i64 0, .int .i64 0, .string ⟨#[]⟩] 1 [(0, (.t 26))], none, []⟩,
  ⟨some 28, .build [.string ⟨#[]⟩, .int .i64 0, .slice none 0 0] [(0, 1, (.c (.string ⟨#[97]⟩))), (2, 1, (.t 27))], none, []⟩,
  ⟨some 29, .bslice true 3 [.string ⟨#[]⟩, .int .i64 0, .slice none 0 0] 1 [(0, (.t 28))], none, []⟩,
  ⟨some 30, .build [.slice none 0 0] [(0, 1, (.t 29))], none, []⟩,
  ⟨some 11, .alloc [.slice none 0 0], none, []⟩,
  ⟨none, .store 1 (.t 11) (.t 30), none, []⟩] [.int, .member, .int, .dim] false)
  (.seq (.region [
  ⟨some 32, .load (some 1) (.t 11), none, []⟩,
  ⟨some 33, .bslice false 1 [.int .i64 0] 1 [(0, (.c (.int .i64 0)))], none, []⟩,
  ⟨some 34, .call true [] 25 [(.t 32), (.c (.slice none 0 0)), (.t 33), (.c (.int .i64 7))], none, []⟩,
  ⟨some 31, .mov (.t 34), none, []⟩,
  ⟨some 35, .ext (.t 31) 0, none, []⟩,
  ⟨some 36, .ext (.t 31) 1, none, []⟩,
  ⟨some 12, .mov (.t 35), none, []⟩,
  ⟨some 13, .mov (.t 36), none, []⟩] [] false)
  (.seq (.seq (.regionJ ⟨[.slot 50 .bool], [37, 38, 39, 40, 41, 42, 43, 44, 45, 46, 47, 48, 49], [], []⟩ [
  ⟨some 37, .mov (.t 13), none, []⟩,
  ⟨some 38, .eqn false true (.t 37), none, []⟩,
  ⟨some 39, .mov (.t 38), none, []⟩,
  ⟨some 40, .mov (.t 12), (some (39, false)), []⟩,
  ⟨some 41, .len false (.t 40), (some (39, false)), []⟩,
  ⟨some 42, .bin .int .neq (.t 41) (.c (.int .i64 1)), (some (39, false)), []⟩,
  ⟨some 43, .pick (.t 39) (.c (.bool true)) (.t 42), none, []⟩,
  ⟨some 44, .mov (.t 43), none, []⟩,
  ⟨some 45, .mov (.t 12), (some (44, false)), []⟩,
  ⟨some 46, .ia 2 (.t 45) (.c (.int .i64 0)), (some (44, false)), []⟩,
  ⟨some 47, .fa 1 (.t 46), (some (44, false)), []⟩,
  ⟨some 48, .load none (.t 47), (some (44, false)), []⟩,
  ⟨some 49, .bin .int .neq (.t 48) (.c (.int .i64 7)), (some (44, false)), []⟩,
  ⟨some 50, .pick (.t 44) (.c (.bool true)) (.t 49), none, []⟩] [] false)
  (.cond (.t 50)
    (.seq (.region [
  ⟨some 10, .mov (.c (.bool false)), none, []⟩] [] false)
    (.ret))
    (.skip)))
  (.seq (.region [
  ⟨some 52, .load (some 1) (.t 5), none, []⟩,
  ⟨some 53, .mov (.t 1), none, []⟩,
  ⟨some 54, .mov (.t 2), none, []⟩,
  ⟨some 55, .mov (.t 3), none, []⟩,
  ⟨some 56, .call true [] 25 [(.t 52), (.t 53), (.t 54), (.t 55)], none, []⟩,
  ⟨some 51, .mov (.t 56), none, []⟩,
  ⟨some 57, .ext (.t 51) 0, none, []⟩,
  ⟨some 58, .ext (.t 51) 1, none, []⟩,
  ⟨some 14, .mov (.t 57), none, []⟩,
  ⟨some 15, .mov (.t 58), none, []⟩] [] false)
  (.seq (.seq (.region [
  ⟨some 59, .mov (.t 15), none, []⟩,
  ⟨some 60, .eqn false true (.t 59), none, []⟩] [] false)
  (.cond (.t 60)
    (.seq (.region [
  ⟨some 10, .mov (.c (.bool true)), none, []⟩] [] false)
    (.ret))
    (.skip)))
  (.seq (.region [
  ⟨some 62, .load (some 1) (.t 5), none, []⟩,
  ⟨some 63, .mov (.t 14), none, []⟩,
  ⟨some 64, .mov (.t 2), none, []⟩,
  ⟨some 65, .call false [] 26 [(.t 62), (.t 63), (.t 64)], none, []⟩,
  ⟨some 61, .mov (.t 65), none, []⟩,
  ⟨some 66, .ext (.t 61) 0, none, []⟩,
  ⟨some 67, .ext (.t 61) 1, none, []⟩,
  ⟨some 16, .alloc [.int .i64 0, .int .i64 0], none, []⟩,
  ⟨none, .store 2 (.t 16) (.t 66), none, []⟩,
  ⟨some 17, .mov (.t 67), none, []⟩] [] false)
  (.seq (.seq (.regionJ ⟨[.slot 81 .bool], [68, 69, 70, 71, 72, 73, 74, 75, 76, 77, 78, 79, 80], [], []⟩ [
  ⟨some 68, .mov (.t 17), none, []⟩,
  ⟨some 69, .eqn false true (.t 68), none, [0]⟩,
  ⟨some 70, .mov (.t 69), none, [1]⟩,
  ⟨some 71, .load (some 2) (.t 16), (some (70, false)), [2]⟩,
  ⟨some 72, .mov (.t 3), (some (70, false)), [2]⟩,
  ⟨some 73, .call false [] 8 [(.t 72)], (some (70, false)), [4, 2, 2]⟩,
  ⟨some 74, .eqa true [(0, .int), (1, .int)] (.t 71) (.t 73), (some (70, false)), [3, 5, 2]⟩,
  ⟨some 75, .pick (.t 70) (.c (.bool true)) (.t 74), none, [2, 6]⟩,
  ⟨some 76, .mov (.t 75), none, [7, 5]⟩,
  ⟨some 77, .load (some 1) (.t 5), (some (76, false)), [8]⟩,
  ⟨some 78, .mov (.t 14), (some (76, false)), [8]⟩,
  ⟨some 79, .call false [] 27 [(.t 77), (.t 78)], (some (76, false)), [9, 10, 8, 8]⟩,
  ⟨some 80, .eqn false true (.t 79), (some (76, false)), [11, 8]⟩,
  ⟨some 81, .pick (.t 76) (.c (.bool true)) (.t 80), none, [8, 12]⟩] [] true)
  (.cond (.t 81)
    (.seq (.region [
  ⟨some 10, .mov (.c (.bool false)), none, []⟩] [] false)
    (.ret))
    (.skip)))
  (.seq (.region [
  ⟨some 82, .mov (.t 2), none, []⟩,
  ⟨some 83, .mov (.t 4), none, []⟩,
  ⟨some 84, .call false [] 28 [(.t 82), (.t 83)], none, []⟩,
  ⟨some 18, .mov (.t 84), none, []⟩] [] false)
  (.seq (.region [
  ⟨some 86, .load (some 1) (.t 5), none, []⟩,
  ⟨some 87, .mov (.t 1), none, []⟩,
  ⟨some 88, .mov (.t 4), none, []⟩,
  ⟨some 89, .call false [] 26 [(.t 86), (.t 87), (.t 88)], none, []⟩,
  ⟨some 85, .mov (.t 89), none, []⟩,
  ⟨some 90, .ext (.t 85) 0, none, []⟩,
  ⟨some 91, .ext (.t 85) 1, none, []⟩,
  ⟨some 19, .alloc [.int .i64 0, .int .i64 0], none, []⟩,
  ⟨none, .store 2 (.t 19) (.t 90), none, []⟩,
  ⟨some 17, .mov (.t 91), none, []⟩] [] false)
  (.seq (.region [
  ⟨some 93, .load (some 1) (.t 5), none, []⟩,
  ⟨some 94, .mov (.t 14), none, []⟩,
  ⟨some 95, .mov (.t 4), none, []⟩,
  ⟨some 96, .call false [] 26 [(.t 93), (.t 94), (.t 95)], none, []⟩,
  ⟨some 92, .mov (.t 96), none, []⟩,
  ⟨some 97, .ext (.t 92) 0, none, []⟩,
  ⟨some 98, .ext (.t 92) 1, none, []⟩,
  ⟨some 20, .alloc [.int .i64 0, .int .i64 0], none, []⟩,
  ⟨none, .store 2 (.t 20) (.t 97), none, []⟩,
  ⟨some 21, .mov (.t 98), none, []⟩] [] false)
  (.seq (.seq (.regionJ ⟨[.slot 112 .bool], [99, 100, 101, 102, 103, 104, 105, 106, 107, 108, 109, 110, 111], [], []⟩ [
  ⟨some 99, .mov (.t 17), none, []⟩,
  ⟨some 100, .eqn false false (.t 99), none, [0]⟩,
  ⟨some 101, .mov (.t 21), none, []⟩,
  ⟨some 102, .eqn false false (.t 101), none, [2]⟩,
  ⟨some 103, .bin .bool .neq (.t 100) (.t 102), none, [1, 3]⟩,
  ⟨some 104, .mov (.t 103), none, [4]⟩,
  ⟨some 105, .mov (.t 18), (some (104, false)), [5]⟩,
  ⟨some 106, .un .not (.t 105), (some (104, false)), [6, 5]⟩,
  ⟨some 107, .mov (.t 106), (some (104, false)), [7, 5, 5]⟩,
  ⟨some 108, .load (some 2) (.t 19), (some (107, true)), [8]⟩,
  ⟨some 109, .load (some 2) (.t 20), (some (107, true)), [8]⟩,
  ⟨some 110, .eqa true [(0, .int), (1, .int)] (.t 108) (.t 109), (some (107, true)), [9, 10, 8]⟩,
  ⟨some 111, .pick (.t 107) (.t 110) (.c (.bool false)), (some (104, false)), [8, 11, 5]⟩,
  ⟨some 112, .pick (.t 104) (.c (.bool true)) (.t 111), none, [5, 12]⟩] [] true)
  (.cond (.t 112)
    (.seq (.region [
  ⟨some 10, .mov (.c (.bool false)), none, []⟩] [] false)
    (.ret))
    (.skip)))
  (.seq (.region [
  ⟨some 114, .load (some 1) (.t 5), none, []⟩,
  ⟨some 115, .mov (.t 14), none, []⟩,
  ⟨some 116, .mov (.t 2), none, []⟩,
  ⟨some 117, .call true [] 29 [(.t 114), (.t 115), (.t 116)], none, []⟩,
  ⟨some 113, .mov (.t 117), none, []⟩,
  ⟨some 118, .ext (.t 113) 0, none, []⟩,
  ⟨some 119, .ext (.t 113) 1, none, []⟩,
  ⟨some 22, .mov (.t 118), none, []⟩,
  ⟨some 23, .mov (.t 119), none, []⟩] [] false)
  (.seq (.region [
  ⟨some 121, .load (some 1) (.t 5), none, []⟩,
  ⟨some 122, .mov (.t 22), none, []⟩,
  ⟨some 123, .mov (.t 2), none, []⟩,
  ⟨some 124, .call false [] 26 [(.t 121), (.t 122), (.t 123)], none, []⟩,
  ⟨some 120, .mov (.t 124), none, []⟩,
  ⟨some 125, .ext (.t 120) 0, none, []⟩,
  ⟨some 126, .ext (.t 120) 1, none, []⟩,
  ⟨some 24, .alloc [.int .i64 0, .int .i64 0], none, []⟩,
  ⟨none, .store 2 (.t 24) (.t 125), none, []⟩,
  ⟨some 25, .mov (.t 126), none, []⟩] [] false)
  (.seq (.regionJ ⟨[.slot 10 .bool], [127, 128, 129, 130, 131, 132, 133, 134, 135, 136, 137, 138, 139, 140, 141, 142, 143, 144, 145], [], []⟩ [
  ⟨some 127, .mov (.t 23), none, []⟩,
  ⟨some 128, .eqn false false (.t 127), none, []⟩,
  ⟨some 129, .mov (.t 128), none, []⟩,
  ⟨some 130, .mov (.t 25), (some (129, true)), []⟩,
  ⟨some 131, .eqn false false (.t 130), (some (129, true)), []⟩,
  ⟨some 132, .pick (.t 129) (.t 131) (.c (.bool false)), none, []⟩,
  ⟨some 133, .mov (.t 132), none, []⟩,
  ⟨some 134, .fa 0 (.t 24), (some (133, true)), []⟩,
  ⟨some 135, .load none (.t 134), (some (133, true)), []⟩,
  ⟨some 136, .bin .int .eql (.t 135) (.c (.int .i64 0)), (some (133, true)), []⟩,
  ⟨some 137, .pick (.t 133) (.t 136) (.c (.bool false)), none, []⟩,
  ⟨some 138, .mov (.t 137), none, []⟩,
  ⟨some 139, .mov (.t 22), (some (138, true)), []⟩,
  ⟨some 140, .len false (.t 139), (some (138, true)), []⟩,
  ⟨some 141, .mov (.t 14), (some (138, true)), []⟩,
  ⟨some 142, .len false (.t 141), (some (138, true)), []⟩,
  ⟨some 143, .bin .int .sub (.t 142) (.c (.int .i64 1)), (some (138, true)), []⟩,
  ⟨some 144, .bin .int .eql (.t 140) (.t 143), (some (138, true)), []⟩,
  ⟨some 145, .pick (.t 138) (.t 144) (.c (.bool false)), none, []⟩,
  ⟨some 10, .mov (.t 145), none, []⟩] [] false)
  (.ret)))))))))))))))
def tf6 : TFunc := { np := 5, nt := 146, res := [.tmp 10], own := false, body := tc6 }
noncomputable def S6 (F25 : (List Dim) → (List Entry) → (List Int) → Int → (Option ((List Entry) × Err))) (F26 : (List Dim) → (List Entry) → (List Int) → (Option (Cell × Err))) (F27 : (List Dim) → (List Entry) → (Option Err)) (F28 : (List Int) → (List Int) → (Option Bool)) (F29 : (List Dim) → (List Entry) → (List Int) → (Option ((List Entry) × Err))) (F8 : Int → (Option Cell)) (a0 : (List Dim)) (a1 : (List Entry)) (a2 : (List Int)) (a3 : Int) (a4 : (List Int)) : Option Bool :=
  bno (F25 ([Dim.mk (⟨#[97]⟩ : ByteArray) (0 : Int) ([Member.mk (⟨#[98]⟩ : ByteArray) (-1 : Int) (0 : Int) (⟨#[]⟩ : ByteArray)] : List Member)] : List Dim) ([] : List Entry) ([(0 : Int)] : List Int) (7 : Int)) fun y1 =>
  jn (σ := Bool) (α := Bool) (br (!(Err.isNil y1.2))
  (inlO (some true))
  (br (decide (¬ ((List.length y1.1 : Nat) : Int) = (1 : Int)))
  (inlO (some true))
  (bno (lookI y1.1 (0 : Int)) fun y2 =>
  inlO (some (decide (¬ (Entry.n y2) = (7 : Int))))))) fun x3 =>
  br x3
  (some false)
  (bno (F25 a0 a1 a2 a3) fun y4 =>
  br (!(Err.isNil y4.2))
  (some true)
  (bno (F26 a0 y4.1 a2) fun y5 =>
  jn (σ := Bool) (α := Bool) (br (!(Err.isNil y5.2))
  (inlO (some true))
  (bno (F8 a3) fun y6 =>
  br (!(decide ((Cell.k y5.1) = (Cell.k y6)) && (decide ((Cell.n y5.1) = (Cell.n y6)) && true)))
  (inlO (some true))
  (bno (F27 a0 y4.1) fun y7 =>
  inlO (some (!(Err.isNil y7)))))) fun x8 =>
  br x8
  (some false)
  (bno (F28 a2 a4) fun y9 =>
  bno (F26 a0 a1 a4) fun y10 =>
  bno (F26 a0 y4.1 a4) fun y11 =>
  jn (σ := Bool) (α := Bool) (br (decide (¬ (Err.isNil y10.2) = (Err.isNil y11.2)))
  (inlO (some true))
  (br (!y9)
  (inlO (some (!(decide ((Cell.k y10.1) = (Cell.k y11.1)) && (decide ((Cell.n y10.1) = (Cell.n y11.1)) && true)))))
  (inlO (some false)))) fun x12 =>
  br x12
  (some false)
  (bno (F29 a0 y4.1 a2) fun y13 =>
  bno (F26 a0 y13.1 a2) fun y14 =>
  jn (σ := Bool) (α := Bool) (br (Err.isNil y13.2)
  (br (Err.isNil y14.2)
  (br (decide ((Cell.k y14.1) = (0 : Int)))
  (inlO (some (decide (((List.length y13.1 : Nat) : Int) = (wi (((List.length y4.1 : Nat) : Int) - (1 : Int)))))))
  (inlO (some false)))
  (inlO (some false)))
  (inlO (some false))) fun x15 =>
  some x15))))
theorem s6 (F25 : (List Dim) → (List Entry) → (List Int) → Int → (Option ((List Entry) × Err))) (F26 : (List Dim) → (List Entry) → (List Int) → (Option (Cell × Err))) (F27 : (List Dim) → (List Entry) → (Option Err)) (F28 : (List Int) → (List Int) → (Option Bool)) (F29 : (List Dim) → (List Entry) → (List Int) → (Option ((List Entry) × Err))) (F8 : Int → (Option Cell)) (a0 : (List Dim)) (a1 : (List Entry)) (a2 : (List Int)) (a3 : Int) (a4 : (List Int)) : tf6.run [⟨25, [(.st .outl), (.sl .entry), (.sl .int), .int], (.tp [(.sl .entry), .err]), fun x => F25 x.1 x.2.1 x.2.2.1 x.2.2.2, false, []⟩,
  ⟨26, [(.st .outl), (.sl .entry), (.sl .int)], (.tp [(.st .cell), .err]), fun x => F26 x.1 x.2.1 x.2.2, false, []⟩,
  ⟨27, [(.st .outl), (.sl .entry)], .err, fun x => F27 x.1 x.2, false, []⟩,
  ⟨28, [(.sl .int), (.sl .int)], .bool, fun x => F28 x.1 x.2, false, []⟩,
  ⟨29, [(.st .outl), (.sl .entry), (.sl .int)], (.tp [(.sl .entry), .err]), fun x => F29 x.1 x.2.1 x.2.2, false, []⟩,
  ⟨8, [.int], (.st .cell), fun x => F8 x, false, []⟩] [(.st .outl), (.sl .entry), (.sl .int), .int, (.sl .int)] .bool (a0, a1, a2, a3, a4) = S6 F25 F26 F27 F28 F29 F8 a0 a1 a2 a3 a4 := by kernel_rfl
noncomputable def P6 (a0 : (List Dim)) (a1 : (List Entry)) (a2 : (List Int)) (a3 : Int) (a4 : (List Int)) : Option Bool := S6 P25 P26 P27 P28 P29 P8 a0 a1 a2 a3 a4
noncomputable def k6 : CSpec := ⟨6, [(.st .outl), (.sl .entry), (.sl .int), .int, (.sl .int)], .bool, fun x => P6 x.1 x.2.1 x.2.2.1 x.2.2.2.1 x.2.2.2.2, false, []⟩
theorem r6 {S : Seat} (h : Ok1 S 6 tf6) (h25 : Rt S k25) (h26 : Rt S k26) (h27 : Rt S k27) (h28 : Rt S k28) (h29 : Rt S k29) (h8 : Rt S k8) : Rt S k6 := fun x y hy =>
  Ok1.sound h (C := [k25, k26, k27, k28, k29, k8]) (CSound.cons h25 (CSound.cons h26 (CSound.cons h27 (CSound.cons h28 (CSound.cons h29 (CSound.cons h8 CSound.nil)))))) rfl rfl rfl ((s6 P25 P26 P27 P28 P29 P8 x.1 x.2.1 x.2.2.1 x.2.2.2.1 x.2.2.2.2).trans hy) rfl

end Ab
