/-
  Functions of the program as typed code, what they come to, and their contracts: written by program (mk.py).
-/
import Derived.Test.YthjpciiacibnhaaB2
import Derived.KernelRfl
import Derived.Test.YthjpciiacibnhaaMI
import Derived.Test.YthjpciiacibnhaaMIn
import Derived.Test.YthjpciiacibnhaaMRo
namespace Ab
open Go
set_option linter.unusedVariables false
set_option maxRecDepth 100000

/- tallyhall/tallylaw1.RollAdds -/
def tc108 : TCode :=
  .seq (.region [
  ⟨some 5, .box (.t 0), none, []⟩,
  ⟨some 10, .mov (.c (.bool false)), none, []⟩] [] false)
  (.seq (.region [
  ⟨some 23, .build [.string ⟨#[]⟩, .int .i64 0, .int .i64 0, .string ⟨#[]⟩] [(0, 1, (.c (.string ⟨#[98]⟩))), (1, 1, (.c (.int .i64 (-1))))], none, []⟩,
  ⟨some 24, .build [.string ⟨#[]⟩, .int .i64 0, .int .i64 0, .string ⟨#[]⟩] [(0, 1, (.c (.string ⟨#[99]⟩))), (1, 1, (.c (.int .i64 0))), (2, 1, (.c (.int .i64 1)))], none, []⟩,
  ⟨some 25, .build [.string ⟨#[]⟩, .int .i64 0, .int .i64 0, .string ⟨#[]⟩] [(0, 1, (.c (.string ⟨#[100]⟩))), (1, 1, (.c (.int .i64 0))), (2, 1, (.c (.int .i64 (-1))))], none, []⟩,
  ⟨some 26, .bslice false 4 [.string ⟨#[]⟩, .int .i64 0, .int .i64 0, .string ⟨#[]⟩] 3 [(0, (.t 23)), (1, (.t 24)), (2, (.t 25))], none, []⟩,
  ⟨some 27, .build [.string ⟨#[]⟩, .int .i64 0, .slice none 0 0] [(0, 1, (.c (.string ⟨#[97]⟩))), (2, 1, (.t 26))], none, []⟩,
  ⟨some 28, .bslice true 3 [.string ⟨#[]⟩, .int .i64 0, .slice none 0 0] 1 [(0, (.t 27))], none, []⟩,
  ⟨some 29, .build [.slice none 0 0] [(0, 1, (.t 28))], none, []⟩,
  ⟨some 11, .alloc [.slice none 0 0], none, []⟩,
  ⟨none, .store 1 (.t 11) (.t 29), none, []⟩] [.int, .int, .int, .member, .int, .dim] false)
  (.seq (.region [
  ⟨some 31, .load (some 1) (.t 11), none, []⟩,
  ⟨some 32, .bslice false 1 [.int .i64 0] 1 [(0, (.c (.int .i64 1)))], none, []⟩,
  ⟨some 33, .build [.slice none 0 0, .int .i64 0] [(0, 1, (.t 32)), (1, 1, (.c (.int .i64 7)))], none, []⟩,
  ⟨some 34, .bslice false 1 [.int .i64 0] 1 [(0, (.c (.int .i64 2)))], none, []⟩,
  ⟨some 35, .build [.slice none 0 0, .int .i64 0] [(0, 1, (.t 34)), (1, 1, (.c (.int .i64 3)))], none, []⟩,
  ⟨some 36, .bslice true 2 [.slice none 0 0, .int .i64 0] 2 [(0, (.t 33)), (1, (.t 35))], none, []⟩,
  ⟨some 37, .bslice false 1 [.int .i64 0] 1 [(0, (.c (.int .i64 0)))], none, []⟩,
  ⟨some 38, .call false [] 110 [(.t 31), (.t 36), (.t 37)], none, []⟩,
  ⟨some 30, .mov (.t 38), none, []⟩,
  ⟨some 39, .ext (.t 30) 0, none, []⟩,
  ⟨some 40, .ext (.t 30) 1, none, []⟩,
  ⟨some 12, .alloc [.int .i64 0, .int .i64 0], none, []⟩,
  ⟨none, .store 2 (.t 12) (.t 39), none, []⟩,
  ⟨some 13, .mov (.t 40), none, []⟩] [.int, .int, .int, .int, .int, .entry] false)
  (.seq (.seq (.regionJ ⟨[.slot 47 .bool], [41, 42, 43, 44, 45, 46], [], []⟩ [
  ⟨some 41, .mov (.t 13), none, []⟩,
  ⟨some 42, .eqn false true (.t 41), none, []⟩,
  ⟨some 43, .mov (.t 42), none, []⟩,
  ⟨some 44, .fa 1 (.t 12), (some (43, false)), []⟩,
  ⟨some 45, .load none (.t 44), (some (43, false)), []⟩,
  ⟨some 46, .bin .int .neq (.t 45) (.c (.int .i64 4)), (some (43, false)), []⟩,
  ⟨some 47, .pick (.t 43) (.c (.bool true)) (.t 46), none, []⟩] [] false)
  (.cond (.t 47)
    (.seq (.region [
  ⟨some 10, .mov (.c (.bool false)), none, []⟩] [] false)
    (.ret))
    (.skip)))
  (.seq (.region [
  ⟨some 49, .load (some 1) (.t 5), none, []⟩,
  ⟨some 50, .mov (.t 1), none, []⟩,
  ⟨some 51, .mov (.t 2), none, []⟩,
  ⟨some 52, .call false [] 110 [(.t 49), (.t 50), (.t 51)], none, []⟩,
  ⟨some 48, .mov (.t 52), none, []⟩,
  ⟨some 53, .ext (.t 48) 0, none, []⟩,
  ⟨some 54, .ext (.t 48) 1, none, []⟩,
  ⟨some 14, .alloc [.int .i64 0, .int .i64 0], none, []⟩,
  ⟨none, .store 2 (.t 14) (.t 53), none, []⟩,
  ⟨some 15, .mov (.t 54), none, []⟩] [] false)
  (.seq (.region [
  ⟨some 56, .load (some 1) (.t 5), none, []⟩,
  ⟨some 57, .mov (.t 1), none, []⟩,
  ⟨some 58, .mov (.t 3), none, []⟩,
  ⟨some 59, .call false [] 26 [(.t 56), (.t 57), (.t 58)], none, []⟩,
  ⟨some 55, .mov (.t 59), none, []⟩,
  ⟨some 60, .ext (.t 55) 0, none, []⟩,
  ⟨some 61, .ext (.t 55) 1, none, []⟩,
  ⟨some 16, .alloc [.int .i64 0, .int .i64 0], none, []⟩,
  ⟨none, .store 2 (.t 16) (.t 60), none, []⟩,
  ⟨some 17, .mov (.t 61), none, []⟩] [] false)
  (.seq (.region [
  ⟨some 63, .load (some 1) (.t 5), none, []⟩,
  ⟨some 64, .mov (.t 1), none, []⟩,
  ⟨some 65, .mov (.t 3), none, []⟩,
  ⟨some 66, .mov (.t 4), none, []⟩,
  ⟨some 67, .call true [] 25 [(.t 63), (.t 64), (.t 65), (.t 66)], none, []⟩,
  ⟨some 62, .mov (.t 67), none, []⟩,
  ⟨some 68, .ext (.t 62) 0, none, []⟩,
  ⟨some 69, .ext (.t 62) 1, none, []⟩,
  ⟨some 18, .mov (.t 68), none, []⟩,
  ⟨some 19, .mov (.t 69), none, []⟩] [] false)
  (.seq (.seq (.regionJ ⟨[.slot 84 .bool], [70, 71, 72, 73, 74, 75, 76, 77, 78, 79, 80, 81, 82, 83], [], []⟩ [
  ⟨some 70, .mov (.t 15), none, []⟩,
  ⟨some 71, .eqn false true (.t 70), none, []⟩,
  ⟨some 72, .mov (.t 71), none, []⟩,
  ⟨some 73, .mov (.t 17), (some (72, false)), []⟩,
  ⟨some 74, .eqn false true (.t 73), (some (72, false)), []⟩,
  ⟨some 75, .pick (.t 72) (.c (.bool true)) (.t 74), none, []⟩,
  ⟨some 76, .mov (.t 75), none, []⟩,
  ⟨some 77, .mov (.t 19), (some (76, false)), []⟩,
  ⟨some 78, .eqn false true (.t 77), (some (76, false)), []⟩,
  ⟨some 79, .pick (.t 76) (.c (.bool true)) (.t 78), none, []⟩,
  ⟨some 80, .mov (.t 79), none, []⟩,
  ⟨some 81, .fa 0 (.t 16), (some (80, false)), []⟩,
  ⟨some 82, .load none (.t 81), (some (80, false)), []⟩,
  ⟨some 83, .bin .int .neq (.t 82) (.c (.int .i64 0)), (some (80, false)), []⟩,
  ⟨some 84, .pick (.t 80) (.c (.bool true)) (.t 83), none, []⟩] [] false)
  (.cond (.t 84)
    (.seq (.region [
  ⟨some 10, .mov (.c (.bool true)), none, []⟩] [] false)
    (.ret))
    (.skip)))
  (.seq (.region [
  ⟨some 86, .load (some 1) (.t 5), none, []⟩,
  ⟨some 87, .mov (.t 18), none, []⟩,
  ⟨some 88, .mov (.t 2), none, []⟩,
  ⟨some 89, .call false [] 110 [(.t 86), (.t 87), (.t 88)], none, []⟩,
  ⟨some 85, .mov (.t 89), none, []⟩,
  ⟨some 90, .ext (.t 85) 0, none, []⟩,
  ⟨some 91, .ext (.t 85) 1, none, []⟩,
  ⟨some 20, .alloc [.int .i64 0, .int .i64 0], none, []⟩,
  ⟨none, .store 2 (.t 20) (.t 90), none, []⟩,
  ⟨some 21, .mov (.t 91), none, []⟩] [] false)
  (.seq (.seq (.region [
  ⟨some 92, .mov (.t 21), none, []⟩,
  ⟨some 93, .eqn false true (.t 92), none, []⟩] [] false)
  (.cond (.t 93)
    (.seq (.region [
  ⟨some 10, .mov (.c (.bool false)), none, []⟩] [] false)
    (.ret))
    (.skip)))
  (.seq (.region [
  ⟨some 95, .load (some 1) (.t 5), none, []⟩,
  ⟨some 96, .mov (.t 2), none, []⟩,
  ⟨some 97, .mov (.t 3), none, []⟩,
  ⟨some 98, .call false [] 111 [(.t 95), (.t 96), (.t 97)], none, []⟩,
  ⟨some 94, .mov (.t 98), none, []⟩,
  ⟨some 99, .ext (.t 94) 0, none, []⟩,
  ⟨some 100, .ext (.t 94) 1, none, []⟩,
  ⟨some 22, .mov (.t 99), none, []⟩,
  ⟨some 21, .mov (.t 100), none, []⟩] [] false)
  (.seq (.seq (.regionJ ⟨[.slot 106 .bool], [101, 102, 103, 104, 105], [], []⟩ [
  ⟨some 101, .mov (.t 21), none, []⟩,
  ⟨some 102, .eqn false true (.t 101), none, []⟩,
  ⟨some 103, .mov (.t 102), none, []⟩,
  ⟨some 104, .mov (.t 22), (some (103, false)), []⟩,
  ⟨some 105, .bin .int .eql (.t 104) (.c (.int .i64 0)), (some (103, false)), []⟩,
  ⟨some 106, .pick (.t 103) (.c (.bool true)) (.t 105), none, []⟩] [] false)
  (.cond (.t 106)
    (.seq (.region [
  ⟨some 107, .load (some 2) (.t 20), none, []⟩,
  ⟨some 108, .load (some 2) (.t 14), none, []⟩,
  ⟨some 109, .eqa false [(0, .int), (1, .int)] (.t 107) (.t 108), none, []⟩,
  ⟨some 10, .mov (.t 109), none, []⟩] [] false)
    (.ret))
    (.skip)))
  (.seq (.regionJ ⟨[.slot 10 .bool], [110, 111, 112, 113, 114, 115, 116, 117, 118, 119, 120, 121, 122, 123], [], []⟩ [
  ⟨some 110, .fa 0 (.t 20), none, []⟩,
  ⟨some 111, .load none (.t 110), none, []⟩,
  ⟨some 112, .bin .int .eql (.t 111) (.c (.int .i64 1)), none, []⟩,
  ⟨some 113, .mov (.t 112), none, []⟩,
  ⟨some 114, .fa 1 (.t 20), (some (113, true)), []⟩,
  ⟨some 115, .load none (.t 114), (some (113, true)), []⟩,
  ⟨some 116, .fa 1 (.t 14), (some (113, true)), []⟩,
  ⟨some 117, .load none (.t 116), (some (113, true)), []⟩,
  ⟨some 118, .mov (.t 22), (some (113, true)), []⟩,
  ⟨some 119, .mov (.t 4), (some (113, true)), []⟩,
  ⟨some 120, .bin .int .mul (.t 118) (.t 119), (some (113, true)), []⟩,
  ⟨some 121, .bin .int .add (.t 117) (.t 120), (some (113, true)), []⟩,
  ⟨some 122, .bin .int .eql (.t 115) (.t 121), (some (113, true)), []⟩,
  ⟨some 123, .pick (.t 113) (.t 122) (.c (.bool false)), none, []⟩,
  ⟨some 10, .mov (.t 123), none, []⟩] [] false)
  (.ret)))))))))))))
def tf108 : TFunc := { np := 5, nt := 124, res := [.tmp 10], own := false, body := tc108 }
noncomputable def S108 (F110 : (List Dim) → (List Entry) → (List Int) → (Option (Cell × Err))) (F111 : (List Dim) → (List Int) → (List Int) → (Option (Int × Err))) (F25 : (List Dim) → (List Entry) → (List Int) → Int → (Option ((List Entry) × Err))) (F26 : (List Dim) → (List Entry) → (List Int) → (Option (Cell × Err))) (a0 : (List Dim)) (a1 : (List Entry)) (a2 : (List Int)) (a3 : (List Int)) (a4 : Int) : Option Bool :=
  bno (F110 ([Dim.mk (⟨#[97]⟩ : ByteArray) (0 : Int) ([Member.mk (⟨#[98]⟩ : ByteArray) (-1 : Int) (0 : Int) (⟨#[]⟩ : ByteArray), Member.mk (⟨#[99]⟩ : ByteArray) (0 : Int) (1 : Int) (⟨#[]⟩ : ByteArray), Member.mk (⟨#[100]⟩ : ByteArray) (0 : Int) (-1 : Int) (⟨#[]⟩ : ByteArray)] : List Member)] : List Dim) ([Entry.mk ([(1 : Int)] : List Int) (7 : Int), Entry.mk ([(2 : Int)] : List Int) (3 : Int)] : List Entry) ([(0 : Int)] : List Int)) fun y1 =>
  jn (σ := Bool) (α := Bool) (br (!(Err.isNil y1.2))
  (inlO (some true))
  (inlO (some (decide (¬ (Cell.n y1.1) = (4 : Int)))))) fun x2 =>
  br x2
  (some false)
  (bno (F110 a0 a1 a2) fun y3 =>
  bno (F26 a0 a1 a3) fun y4 =>
  bno (F25 a0 a1 a3 a4) fun y5 =>
  jn (σ := Bool) (α := Bool) (br (!(Err.isNil y3.2))
  (inlO (some true))
  (br (!(Err.isNil y4.2))
  (inlO (some true))
  (br (!(Err.isNil y5.2))
  (inlO (some true))
  (inlO (some (decide (¬ (Cell.k y4.1) = (0 : Int)))))))) fun x6 =>
  br x6
  (some true)
  (bno (F110 a0 y5.1 a2) fun y7 =>
  br (!(Err.isNil y7.2))
  (some false)
  (bno (F111 a0 a2 a3) fun y8 =>
  jn (σ := Bool) (α := Bool) (br (!(Err.isNil y8.2))
  (inlO (some true))
  (inlO (some (decide (y8.1 = (0 : Int)))))) fun x9 =>
  br x9
  (some (decide ((Cell.k y7.1) = (Cell.k y3.1)) && (decide ((Cell.n y7.1) = (Cell.n y3.1)) && true)))
  (jn (σ := Bool) (α := Bool) (br (decide ((Cell.k y7.1) = (1 : Int)))
  (inlO (some (decide ((Cell.n y7.1) = (wi ((Cell.n y3.1) + (wi (y8.1 * a4))))))))
  (inlO (some false))) fun x10 =>
  some x10))))
theorem s108 (F110 : (List Dim) → (List Entry) → (List Int) → (Option (Cell × Err))) (F111 : (List Dim) → (List Int) → (List Int) → (Option (Int × Err))) (F25 : (List Dim) → (List Entry) → (List Int) → Int → (Option ((List Entry) × Err))) (F26 : (List Dim) → (List Entry) → (List Int) → (Option (Cell × Err))) (a0 : (List Dim)) (a1 : (List Entry)) (a2 : (List Int)) (a3 : (List Int)) (a4 : Int) : tf108.run [⟨110, [(.st .outl), (.sl .entry), (.sl .int)], (.tp [(.st .cell), .err]), fun x => F110 x.1 x.2.1 x.2.2, false, []⟩,
  ⟨111, [(.st .outl), (.sl .int), (.sl .int)], (.tp [.int, .err]), fun x => F111 x.1 x.2.1 x.2.2, false, []⟩,
  ⟨25, [(.st .outl), (.sl .entry), (.sl .int), .int], (.tp [(.sl .entry), .err]), fun x => F25 x.1 x.2.1 x.2.2.1 x.2.2.2, false, []⟩,
  ⟨26, [(.st .outl), (.sl .entry), (.sl .int)], (.tp [(.st .cell), .err]), fun x => F26 x.1 x.2.1 x.2.2, false, []⟩] [(.st .outl), (.sl .entry), (.sl .int), (.sl .int), .int] .bool (a0, a1, a2, a3, a4) = S108 F110 F111 F25 F26 a0 a1 a2 a3 a4 := by kernel_rfl
noncomputable def P108 (a0 : (List Dim)) (a1 : (List Entry)) (a2 : (List Int)) (a3 : (List Int)) (a4 : Int) : Option Bool := S108 P110 P111 P25 P26 a0 a1 a2 a3 a4
noncomputable def k108 : CSpec := ⟨108, [(.st .outl), (.sl .entry), (.sl .int), (.sl .int), .int], .bool, fun x => P108 x.1 x.2.1 x.2.2.1 x.2.2.2.1 x.2.2.2.2, false, []⟩
theorem r108 {S : Seat} (h : Ok1 S 108 tf108) (h110 : Rt S k110) (h111 : Rt S k111) (h25 : Rt S k25) (h26 : Rt S k26) : Rt S k108 := fun x y hy =>
  Ok1.sound h (C := [k110, k111, k25, k26]) (CSound.cons h110 (CSound.cons h111 (CSound.cons h25 (CSound.cons h26 CSound.nil)))) rfl rfl rfl ((s108 P110 P111 P25 P26 x.1 x.2.1 x.2.2.1 x.2.2.2.1 x.2.2.2.2).trans hy) rfl

end Ab
