/-
  Functions of the program as typed code, what they come to, and their contracts: written by program (mk.py).
-/
import Derived.Test.YtcabflannjeigaaDoorB2
import Derived.KernelRfl
import Derived.Test.YtcabflannjeigaaDoorMFm
import Derived.Test.YtcabflannjeigaaDoorMFp
import Derived.Test.YtcabflannjeigaaDoorMPa
import Derived.Test.YtcabflannjeigaaDoorMRk
namespace Ab
open Go
set_option linter.unusedVariables false
set_option maxRecDepth 100000

/- tallyhall/tallylaw2.FormulaBack -/
def tc290 : TCode :=
  .seq (.region [
  ⟨some 8, .mov (.c (.bool false)), none, []⟩] [] false)
  (.seq (.region [
  ⟨some 28, .call true [] 248 [(.c (.string ⟨#[97, 45, 40, 98, 45, 50, 41]⟩))], none, []⟩,
  ⟨some 27, .mov (.t 28), none, []⟩,
  ⟨some 29, .ext (.t 27) 0, none, []⟩,
  ⟨some 30, .ext (.t 27) 1, none, []⟩,
  ⟨some 31, .ext (.t 27) 2, none, []⟩,
  ⟨some 9, .mov (.t 29), none, []⟩,
  ⟨some 10, .mov (.t 30), none, []⟩,
  ⟨some 11, .mov (.t 31), none, []⟩] [] false)
  (.seq (.seq (.regionJ ⟨[.slot 56 .bool], [32, 33, 34, 35, 36, 37, 38, 39, 40, 41, 42, 43, 44, 45, 46, 47, 48, 49, 50, 51, 52, 53, 54, 55], [], []⟩ [
  ⟨some 32, .mov (.t 11), none, []⟩,
  ⟨some 33, .eqn false true (.t 32), none, []⟩,
  ⟨some 34, .mov (.t 33), none, []⟩,
  ⟨some 35, .mov (.t 10), (some (34, false)), []⟩,
  ⟨some 36, .bin .int .neq (.t 35) (.c (.int .i64 0)), (some (34, false)), []⟩,
  ⟨some 37, .pick (.t 34) (.c (.bool true)) (.t 36), none, []⟩,
  ⟨some 38, .mov (.t 37), none, []⟩,
  ⟨some 39, .mov (.t 9), (some (38, false)), []⟩,
  ⟨some 40, .len false (.t 39), (some (38, false)), []⟩,
  ⟨some 41, .bin .int .neq (.t 40) (.c (.int .i64 5)), (some (38, false)), []⟩,
  ⟨some 42, .pick (.t 38) (.c (.bool true)) (.t 41), none, []⟩,
  ⟨some 43, .mov (.t 42), none, []⟩,
  ⟨some 44, .mov (.t 9), (some (43, false)), []⟩,
  ⟨some 45, .ia 5 (.t 44) (.c (.int .i64 4)), (some (43, false)), []⟩,
  ⟨some 46, .fa 0 (.t 45), (some (43, false)), []⟩,
  ⟨some 47, .load none (.t 46), (some (43, false)), []⟩,
  ⟨some 48, .bin .int .neq (.t 47) (.c (.int .i64 4)), (some (43, false)), []⟩,
  ⟨some 49, .pick (.t 43) (.c (.bool true)) (.t 48), none, []⟩,
  ⟨some 50, .mov (.t 49), none, []⟩,
  ⟨some 51, .mov (.t 9), (some (50, false)), []⟩,
  ⟨some 52, .ia 5 (.t 51) (.c (.int .i64 3)), (some (50, false)), []⟩,
  ⟨some 53, .fa 0 (.t 52), (some (50, false)), []⟩,
  ⟨some 54, .load none (.t 53), (some (50, false)), []⟩,
  ⟨some 55, .bin .int .neq (.t 54) (.c (.int .i64 4)), (some (50, false)), []⟩,
  ⟨some 56, .pick (.t 50) (.c (.bool true)) (.t 55), none, []⟩] [] false)
  (.cond (.t 56)
    (.seq (.region [
  ⟨some 8, .mov (.c (.bool false)), none, []⟩] [] false)
    (.ret))
    (.skip)))
  (.seq (.region [
  ⟨some 58, .mov (.t 0), none, []⟩,
  ⟨some 59, .call false [] 244 [(.t 58)], none, []⟩,
  ⟨some 57, .mov (.t 59), none, []⟩,
  ⟨some 60, .ext (.t 57) 0, none, []⟩,
  ⟨some 61, .ext (.t 57) 1, none, []⟩,
  ⟨some 12, .mov (.t 60), none, []⟩,
  ⟨some 13, .mov (.t 61), none, []⟩] [] false)
  (.seq (.seq (.regionJ ⟨[.slot 68 .bool], [62, 63, 64, 65, 66, 67], [], []⟩ [
  ⟨some 62, .mov (.t 13), none, []⟩,
  ⟨some 63, .eqn false false (.t 62), none, []⟩,
  ⟨some 64, .mov (.t 63), none, []⟩,
  ⟨some 65, .mov (.t 12), (some (64, true)), []⟩,
  ⟨some 66, .len true (.t 65), (some (64, true)), []⟩,
  ⟨some 67, .bin .int .leq (.t 66) (.c (.int .i64 100)), (some (64, true)), []⟩,
  ⟨some 68, .pick (.t 64) (.t 67) (.c (.bool false)), none, []⟩] [] false)
  (.condJ ⟨[], [14, 15, 16, 17, 18, 19, 20, 21, 22, 69, 70, 71, 72, 73, 74, 75, 76, 77, 78, 79, 80, 81, 82, 83, 84, 85, 86, 87, 88, 89, 90, 91, 92, 93, 94, 95, 96, 97, 98, 99, 100, 101, 102, 103, 104, 105, 106, 107, 108, 109, 110, 111, 112, 113, 114, 115, 116], [19, 21], []⟩ (.t 68)
    (.seq (.region [
  ⟨some 70, .mov (.t 12), none, []⟩,
  ⟨some 71, .call true [] 248 [(.t 70)], none, []⟩,
  ⟨some 69, .mov (.t 71), none, []⟩,
  ⟨some 72, .ext (.t 69) 0, none, []⟩,
  ⟨some 73, .ext (.t 69) 1, none, []⟩,
  ⟨some 74, .ext (.t 69) 2, none, []⟩,
  ⟨some 14, .mov (.t 72), none, []⟩,
  ⟨some 15, .mov (.t 73), none, []⟩,
  ⟨some 16, .mov (.t 74), none, []⟩] [] false)
    (.seq (.region [
  ⟨some 76, .mov (.t 14), none, []⟩,
  ⟨some 77, .call false [] 244 [(.t 76)], none, []⟩,
  ⟨some 75, .mov (.t 77), none, []⟩,
  ⟨some 78, .ext (.t 75) 0, none, []⟩,
  ⟨some 79, .ext (.t 75) 1, none, []⟩,
  ⟨some 17, .mov (.t 78), none, []⟩,
  ⟨some 18, .mov (.t 79), none, []⟩] [] false)
    (.seq (.region [
  ⟨some 81, .mov (.t 0), none, []⟩,
  ⟨some 82, .mov (.t 2), none, []⟩,
  ⟨some 83, .mov (.t 3), none, []⟩,
  ⟨some 84, .call false [] 293 [(.t 81), (.t 82), (.t 83)], none, []⟩,
  ⟨some 80, .mov (.t 84), none, []⟩,
  ⟨some 85, .ext (.t 80) 0, none, []⟩,
  ⟨some 86, .ext (.t 80) 1, none, []⟩,
  ⟨some 19, .alloc [.int .i64 0, .int .i64 0], none, []⟩,
  ⟨none, .store 2 (.t 19) (.t 85), none, []⟩,
  ⟨some 20, .mov (.t 86), none, []⟩] [] false)
    (.seq (.region [
  ⟨some 88, .mov (.t 14), none, []⟩,
  ⟨some 89, .mov (.t 2), none, []⟩,
  ⟨some 90, .mov (.t 3), none, []⟩,
  ⟨some 91, .call false [] 293 [(.t 88), (.t 89), (.t 90)], none, []⟩,
  ⟨some 87, .mov (.t 91), none, []⟩,
  ⟨some 92, .ext (.t 87) 0, none, []⟩,
  ⟨some 93, .ext (.t 87) 1, none, []⟩,
  ⟨some 21, .alloc [.int .i64 0, .int .i64 0], none, []⟩,
  ⟨none, .store 2 (.t 21) (.t 92), none, []⟩,
  ⟨some 22, .mov (.t 93), none, []⟩] [] false)
    (.seq (.regionJ ⟨[.slot 116 .bool], [94, 95, 96, 97, 98, 99, 100, 101, 102, 103, 104, 105, 106, 107, 108, 109, 110, 111, 112, 113, 114, 115], [], []⟩ [
  ⟨some 94, .mov (.t 16), none, []⟩,
  ⟨some 95, .eqn false true (.t 94), none, [0]⟩,
  ⟨some 96, .mov (.t 95), none, [1]⟩,
  ⟨some 97, .mov (.t 18), (some (96, false)), [2]⟩,
  ⟨some 98, .eqn false true (.t 97), (some (96, false)), [3, 2]⟩,
  ⟨some 99, .pick (.t 96) (.c (.bool true)) (.t 98), none, [2, 4]⟩,
  ⟨some 100, .mov (.t 99), none, [5, 2]⟩,
  ⟨some 101, .mov (.t 17), (some (100, false)), [6]⟩,
  ⟨some 102, .mov (.t 12), (some (100, false)), [6]⟩,
  ⟨some 103, .bin .str .neq (.t 101) (.t 102), (some (100, false)), [7, 8, 6]⟩,
  ⟨some 104, .pick (.t 100) (.c (.bool true)) (.t 103), none, [6, 9]⟩,
  ⟨some 105, .mov (.t 104), none, [10, 6]⟩,
  ⟨some 106, .mov (.t 20), (some (105, false)), [11]⟩,
  ⟨some 107, .eqn false false (.t 106), (some (105, false)), [12, 11]⟩,
  ⟨some 108, .mov (.t 22), (some (105, false)), [11]⟩,
  ⟨some 109, .eqn false false (.t 108), (some (105, false)), [14, 11]⟩,
  ⟨some 110, .bin .bool .neq (.t 107) (.t 109), (some (105, false)), [13, 15, 11]⟩,
  ⟨some 111, .pick (.t 105) (.c (.bool true)) (.t 110), none, [11, 16]⟩,
  ⟨some 112, .mov (.t 111), none, [17, 11]⟩,
  ⟨some 113, .load (some 2) (.t 19), (some (112, false)), [18]⟩,
  ⟨some 114, .load (some 2) (.t 21), (some (112, false)), [18]⟩,
  ⟨some 115, .eqa true [(0, .int), (1, .int)] (.t 113) (.t 114), (some (112, false)), [19, 20, 18]⟩,
  ⟨some 116, .pick (.t 112) (.c (.bool true)) (.t 115), none, [18, 21]⟩] [] true)
    (.cond (.t 116)
      (.seq (.region [
  ⟨some 8, .mov (.c (.bool false)), none, []⟩] [] false)
      (.ret))
      (.skip)))))))
    (.skip)))
  (.seq (.region [
  ⟨some 118, .mov (.t 1), none, []⟩,
  ⟨some 119, .call true [] 248 [(.t 118)], none, []⟩,
  ⟨some 117, .mov (.t 119), none, []⟩,
  ⟨some 120, .ext (.t 117) 0, none, []⟩,
  ⟨some 121, .ext (.t 117) 1, none, []⟩,
  ⟨some 122, .ext (.t 117) 2, none, []⟩,
  ⟨some 23, .mov (.t 120), none, []⟩,
  ⟨some 24, .mov (.t 121), none, []⟩,
  ⟨some 13, .mov (.t 122), none, []⟩] [] false)
  (.seq (.seq (.region [
  ⟨some 123, .mov (.t 13), none, []⟩,
  ⟨some 124, .eqn false true (.t 123), none, []⟩] [] false)
  (.cond (.t 124)
    (.seq (.region [
  ⟨some 8, .mov (.c (.bool true)), none, []⟩] [] false)
    (.ret))
    (.skip)))
  (.seq (.region [
  ⟨some 126, .mov (.t 23), none, []⟩,
  ⟨some 127, .call false [] 244 [(.t 126)], none, []⟩,
  ⟨some 125, .mov (.t 127), none, []⟩,
  ⟨some 128, .ext (.t 125) 0, none, []⟩,
  ⟨some 129, .ext (.t 125) 1, none, []⟩,
  ⟨some 25, .mov (.t 128), none, []⟩,
  ⟨some 26, .mov (.t 129), none, []⟩] [] false)
  (.seq (.regionJ ⟨[.slot 8 .bool], [130, 131, 132, 133, 134, 135, 136, 137, 138, 139, 140, 141, 142, 143], [], []⟩ [
  ⟨some 130, .mov (.t 26), none, []⟩,
  ⟨some 131, .eqn false false (.t 130), none, []⟩,
  ⟨some 132, .mov (.t 131), none, []⟩,
  ⟨some 133, .mov (.t 23), (some (132, true)), []⟩,
  ⟨some 134, .call false [] 241 [(.t 133)], (some (132, true)), []⟩,
  ⟨some 135, .eqn false false (.t 134), (some (132, true)), []⟩,
  ⟨some 136, .pick (.t 132) (.t 135) (.c (.bool false)), none, []⟩,
  ⟨some 137, .mov (.t 136), none, []⟩,
  ⟨some 138, .mov (.t 25), (some (137, true)), []⟩,
  ⟨some 139, .len true (.t 138), (some (137, true)), []⟩,
  ⟨some 140, .mov (.t 1), (some (137, true)), []⟩,
  ⟨some 141, .len true (.t 140), (some (137, true)), []⟩,
  ⟨some 142, .bin .int .leq (.t 139) (.t 141), (some (137, true)), []⟩,
  ⟨some 143, .pick (.t 137) (.t 142) (.c (.bool false)), none, []⟩,
  ⟨some 8, .mov (.t 143), none, []⟩] [] false)
  (.ret)))))))))
def tf290 : TFunc := { np := 4, nt := 144, res := [.tmp 8], own := false, body := tc290 }
noncomputable def S290 (F241 : (List Node) → (Option Err)) (F244 : (List Node) → (Option (ByteArray × Err))) (F248 : ByteArray → (Option ((List Node) × Int × Err))) (F293 : (List Node) → (List ByteArray) → (List Cell) → (Option (Cell × Err))) (a0 : (List Node)) (a1 : ByteArray) (a2 : (List ByteArray)) (a3 : (List Cell)) : Option Bool :=
  bno (F248 (⟨#[97, 45, 40, 98, 45, 50, 41]⟩ : ByteArray)) fun y1 =>
  jn (σ := Bool) (α := Bool) (br (!(Err.isNil y1.2.2))
  (inlO (some true))
  (br (decide (¬ y1.2.1 = (0 : Int)))
  (inlO (some true))
  (br (decide (¬ ((List.length y1.1 : Nat) : Int) = (5 : Int)))
  (inlO (some true))
  (bno (lookI y1.1 (4 : Int)) fun y2 =>
  br (decide (¬ (Node.op y2) = (4 : Int)))
  (inlO (some true))
  (bno (lookI y1.1 (3 : Int)) fun y3 =>
  inlO (some (decide (¬ (Node.op y3) = (4 : Int))))))))) fun x4 =>
  br x4
  (some false)
  (bno (F244 a0) fun y5 =>
  jn (σ := Bool) (α := Bool) (br (Err.isNil y5.2)
  (inlO (some (decide (((ByteArray.size y5.1 : Nat) : Int) ≤ (100 : Int)))))
  (inlO (some false))) fun x6 =>
  jn (σ := Unit) (α := Bool) (br x6
  (bno (F248 y5.1) fun y7 =>
  bno (F244 y7.1) fun y8 =>
  bno (F293 a0 a2 a3) fun y9 =>
  bno (F293 y7.1 a2 a3) fun y10 =>
  jn (σ := Bool) (α := (Sum Unit Bool)) (br (!(Err.isNil y7.2.2))
  (inlO (some true))
  (br (!(Err.isNil y8.2))
  (inlO (some true))
  (br (decide (¬ y8.1 = y5.1))
  (inlO (some true))
  (br (decide (¬ (Err.isNil y9.2) = (Err.isNil y10.2)))
  (inlO (some true))
  (inlO (some (!(decide ((Cell.k y9.1) = (Cell.k y10.1)) && (decide ((Cell.n y9.1) = (Cell.n y10.1)) && true))))))))) fun x11 =>
  br x11
  (inrO (some false))
  (inlO (some ())))
  (inlO (some ()))) fun x12 =>
  bno (F248 a1) fun y13 =>
  br (!(Err.isNil y13.2.2))
  (some true)
  (bno (F244 y13.1) fun y14 =>
  jn (σ := Bool) (α := Bool) (br (Err.isNil y14.2)
  (bno (F241 y13.1) fun y15 =>
  br (Err.isNil y15)
  (inlO (some (decide (((ByteArray.size y14.1 : Nat) : Int) ≤ ((ByteArray.size a1 : Nat) : Int)))))
  (inlO (some false)))
  (inlO (some false))) fun x16 =>
  some x16))
theorem s290 (F241 : (List Node) → (Option Err)) (F244 : (List Node) → (Option (ByteArray × Err))) (F248 : ByteArray → (Option ((List Node) × Int × Err))) (F293 : (List Node) → (List ByteArray) → (List Cell) → (Option (Cell × Err))) (a0 : (List Node)) (a1 : ByteArray) (a2 : (List ByteArray)) (a3 : (List Cell)) : tf290.run [⟨241, [(.sl .node)], .err, fun x => F241 x, false, []⟩,
  ⟨244, [(.sl .node)], (.tp [.str, .err]), fun x => F244 x, false, []⟩,
  ⟨248, [.str], (.tp [(.sl .node), .int, .err]), fun x => F248 x, false, []⟩,
  ⟨293, [(.sl .node), (.sl .str), (.sl .cell)], (.tp [(.st .cell), .err]), fun x => F293 x.1 x.2.1 x.2.2, false, []⟩] [(.sl .node), .str, (.sl .str), (.sl .cell)] .bool (a0, a1, a2, a3) = S290 F241 F244 F248 F293 a0 a1 a2 a3 := by kernel_rfl
noncomputable def P290 (a0 : (List Node)) (a1 : ByteArray) (a2 : (List ByteArray)) (a3 : (List Cell)) : Option Bool := S290 P241 P244 P248 P293 a0 a1 a2 a3
noncomputable def k290 : CSpec := ⟨290, [(.sl .node), .str, (.sl .str), (.sl .cell)], .bool, fun x => P290 x.1 x.2.1 x.2.2.1 x.2.2.2, false, []⟩
theorem r290 {S : Seat} (h : Ok1 S 290 tf290) (h241 : Rt S k241) (h244 : Rt S k244) (h248 : Rt S k248) (h293 : Rt S k293) : Rt S k290 := fun x y hy =>
  Ok1.sound h (C := [k241, k244, k248, k293]) (CSound.cons h241 (CSound.cons h244 (CSound.cons h248 (CSound.cons h293 CSound.nil)))) rfl rfl rfl ((s290 P241 P244 P248 P293 x.1 x.2.1 x.2.2.1 x.2.2.2).trans hy) rfl

end Ab
