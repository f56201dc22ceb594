/-
  Functions of the program as typed code, what they come to, and their contracts: written by program (mk.py).
-/
import Derived.Test.YtcabflannjeigaaDoorB2
import Derived.KernelRfl
import Derived.Test.YtcabflannjeigaaDoorMFp
import Derived.Test.YtcabflannjeigaaDoorMRk
import Derived.Test.YtcabflannjeigaaDoorMSr
namespace Ab
open Go
set_option linter.unusedVariables false
set_option maxRecDepth 100000

/- tallyhall/tallylaw2.ReckonSwaps -/
def tc288 : TCode :=
  .seq (.region [
  ⟨some 6, .mov (.c (.bool false)), none, []⟩] [] false)
  (.seq (.region [
  ⟨some 26, .build [.int .i64 0, .int .i64 0, .string ⟨#[]⟩, .int .i64 0, .int .i64 0] [(0, 1, (.c (.int .i64 1))), (1, 1, (.c (.int .i64 2)))], none, []⟩,
  ⟨some 27, .build [.int .i64 0, .int .i64 0, .string ⟨#[]⟩, .int .i64 0, .int .i64 0] [(0, 1, (.c (.int .i64 1))), (1, 1, (.c (.int .i64 3)))], none, []⟩,
  ⟨some 28, .build [.int .i64 0, .int .i64 0, .string ⟨#[]⟩, .int .i64 0, .int .i64 0] [(0, 1, (.c (.int .i64 5))), (3, 1, (.c (.int .i64 0))), (4, 1, (.c (.int .i64 1)))], none, []⟩,
  ⟨some 29, .bslice false 5 [.int .i64 0, .int .i64 0, .string ⟨#[]⟩, .int .i64 0, .int .i64 0] 3 [(0, (.t 26)), (1, (.t 27)), (2, (.t 28))], none, []⟩,
  ⟨some 7, .mov (.t 29), none, []⟩] [.int, .int, .int, .node] false)
  (.seq (.region [
  ⟨some 31, .mov (.t 7), none, []⟩,
  ⟨some 32, .call false [] 293 [(.t 31), (.c (.slice none 0 0)), (.c (.slice none 0 0))], none, []⟩,
  ⟨some 30, .mov (.t 32), none, []⟩,
  ⟨some 33, .ext (.t 30) 0, none, []⟩,
  ⟨some 34, .ext (.t 30) 1, none, []⟩,
  ⟨some 8, .alloc [.int .i64 0, .int .i64 0], none, []⟩,
  ⟨none, .store 2 (.t 8) (.t 33), none, []⟩,
  ⟨some 9, .mov (.t 34), none, []⟩] [] false)
  (.seq (.seq (.regionJ ⟨[.slot 46 .bool], [35, 36, 37, 38, 39, 40, 41, 42, 43, 44, 45], [], []⟩ [
  ⟨some 35, .mov (.t 9), none, []⟩,
  ⟨some 36, .eqn false true (.t 35), none, []⟩,
  ⟨some 37, .mov (.t 36), none, []⟩,
  ⟨some 38, .fa 0 (.t 8), (some (37, false)), []⟩,
  ⟨some 39, .load none (.t 38), (some (37, false)), []⟩,
  ⟨some 40, .bin .int .neq (.t 39) (.c (.int .i64 1)), (some (37, false)), []⟩,
  ⟨some 41, .pick (.t 37) (.c (.bool true)) (.t 40), none, []⟩,
  ⟨some 42, .mov (.t 41), none, []⟩,
  ⟨some 43, .fa 1 (.t 8), (some (42, false)), []⟩,
  ⟨some 44, .load none (.t 43), (some (42, false)), []⟩,
  ⟨some 45, .bin .int .neq (.t 44) (.c (.int .i64 6)), (some (42, false)), []⟩,
  ⟨some 46, .pick (.t 42) (.c (.bool true)) (.t 45), none, []⟩] [] false)
  (.cond (.t 46)
    (.seq (.region [
  ⟨some 6, .mov (.c (.bool false)), none, []⟩] [] false)
    (.ret))
    (.skip)))
  (.seq (.region [
  ⟨some 48, .mov (.t 0), none, []⟩,
  ⟨some 49, .call true [] 295 [(.t 48)], none, []⟩,
  ⟨some 47, .mov (.t 49), none, []⟩,
  ⟨some 50, .ext (.t 47) 0, none, []⟩,
  ⟨some 51, .ext (.t 47) 1, none, []⟩,
  ⟨some 10, .mov (.t 50), none, []⟩,
  ⟨some 11, .mov (.t 51), none, []⟩] [] false)
  (.seq (.seq (.region [
  ⟨some 52, .mov (.t 11), none, []⟩,
  ⟨some 53, .eqn false true (.t 52), none, []⟩] [] false)
  (.cond (.t 53)
    (.seq (.region [
  ⟨some 6, .mov (.c (.bool true)), none, []⟩] [] false)
    (.ret))
    (.skip)))
  (.seq (.region [
  ⟨some 55, .mov (.t 10), none, []⟩,
  ⟨some 56, .call true [] 295 [(.t 55)], none, []⟩,
  ⟨some 54, .mov (.t 56), none, []⟩,
  ⟨some 57, .ext (.t 54) 0, none, []⟩,
  ⟨some 58, .ext (.t 54) 1, none, []⟩,
  ⟨some 12, .mov (.t 57), none, []⟩,
  ⟨some 13, .mov (.t 58), none, []⟩] [] false)
  (.seq (.region [
  ⟨some 60, .mov (.t 0), none, []⟩,
  ⟨some 61, .call false [] 244 [(.t 60)], none, []⟩,
  ⟨some 59, .mov (.t 61), none, []⟩,
  ⟨some 62, .ext (.t 59) 0, none, []⟩,
  ⟨some 63, .ext (.t 59) 1, none, []⟩,
  ⟨some 14, .mov (.t 62), none, []⟩,
  ⟨some 15, .mov (.t 63), none, []⟩] [] false)
  (.seq (.region [
  ⟨some 65, .mov (.t 12), none, []⟩,
  ⟨some 66, .call false [] 244 [(.t 65)], none, []⟩,
  ⟨some 64, .mov (.t 66), none, []⟩,
  ⟨some 67, .ext (.t 64) 0, none, []⟩,
  ⟨some 68, .ext (.t 64) 1, none, []⟩,
  ⟨some 16, .mov (.t 67), none, []⟩,
  ⟨some 17, .mov (.t 68), none, []⟩] [] false)
  (.seq (.region [
  ⟨some 70, .mov (.t 0), none, []⟩,
  ⟨some 71, .call false [] 296 [(.t 70)], none, []⟩,
  ⟨some 69, .mov (.t 71), none, []⟩,
  ⟨some 72, .ext (.t 69) 0, none, []⟩,
  ⟨some 73, .ext (.t 69) 1, none, []⟩,
  ⟨some 18, .mov (.t 72), none, []⟩,
  ⟨some 19, .mov (.t 73), none, []⟩] [] false)
  (.seq (.seq (.regionJ ⟨[.slot 92 .bool], [74, 75, 76, 77, 78, 79, 80, 81, 82, 83, 84, 85, 86, 87, 88, 89, 90, 91], [], []⟩ [
  ⟨some 74, .mov (.t 13), none, []⟩,
  ⟨some 75, .eqn false true (.t 74), none, []⟩,
  ⟨some 76, .mov (.t 75), none, []⟩,
  ⟨some 77, .mov (.t 15), (some (76, false)), []⟩,
  ⟨some 78, .eqn false true (.t 77), (some (76, false)), []⟩,
  ⟨some 79, .pick (.t 76) (.c (.bool true)) (.t 78), none, []⟩,
  ⟨some 80, .mov (.t 79), none, []⟩,
  ⟨some 81, .mov (.t 17), (some (80, false)), []⟩,
  ⟨some 82, .eqn false true (.t 81), (some (80, false)), []⟩,
  ⟨some 83, .pick (.t 80) (.c (.bool true)) (.t 82), none, []⟩,
  ⟨some 84, .mov (.t 83), none, []⟩,
  ⟨some 85, .mov (.t 19), (some (84, false)), []⟩,
  ⟨some 86, .eqn false true (.t 85), (some (84, false)), []⟩,
  ⟨some 87, .pick (.t 84) (.c (.bool true)) (.t 86), none, []⟩,
  ⟨some 88, .mov (.t 87), none, []⟩,
  ⟨some 89, .mov (.t 14), (some (88, false)), []⟩,
  ⟨some 90, .mov (.t 16), (some (88, false)), []⟩,
  ⟨some 91, .bin .str .neq (.t 89) (.t 90), (some (88, false)), []⟩,
  ⟨some 92, .pick (.t 88) (.c (.bool true)) (.t 91), none, []⟩] [] false)
  (.cond (.t 92)
    (.seq (.region [
  ⟨some 6, .mov (.c (.bool false)), none, []⟩] [] false)
    (.ret))
    (.skip)))
  (.seq (.region [
  ⟨some 94, .mov (.t 0), none, []⟩,
  ⟨some 95, .mov (.t 1), none, []⟩,
  ⟨some 96, .mov (.t 2), none, []⟩,
  ⟨some 97, .call false [] 293 [(.t 94), (.t 95), (.t 96)], none, []⟩,
  ⟨some 93, .mov (.t 97), none, []⟩,
  ⟨some 98, .ext (.t 93) 0, none, []⟩,
  ⟨some 99, .ext (.t 93) 1, none, []⟩,
  ⟨some 20, .alloc [.int .i64 0, .int .i64 0], none, []⟩,
  ⟨none, .store 2 (.t 20) (.t 98), none, []⟩,
  ⟨some 21, .mov (.t 99), none, []⟩] [] false)
  (.seq (.region [
  ⟨some 101, .mov (.t 10), none, []⟩,
  ⟨some 102, .mov (.t 1), none, []⟩,
  ⟨some 103, .mov (.t 2), none, []⟩,
  ⟨some 104, .call false [] 293 [(.t 101), (.t 102), (.t 103)], none, []⟩,
  ⟨some 100, .mov (.t 104), none, []⟩,
  ⟨some 105, .ext (.t 100) 0, none, []⟩,
  ⟨some 106, .ext (.t 100) 1, none, []⟩,
  ⟨some 22, .alloc [.int .i64 0, .int .i64 0], none, []⟩,
  ⟨none, .store 2 (.t 22) (.t 105), none, []⟩,
  ⟨some 23, .mov (.t 106), none, []⟩] [] false)
  (.seq (.seq (.regionJ ⟨[.slot 116 .bool], [107, 108, 109, 110, 111, 112, 113, 114, 115], [], []⟩ [
  ⟨some 107, .mov (.t 21), none, []⟩,
  ⟨some 108, .eqn false false (.t 107), none, [0]⟩,
  ⟨some 109, .mov (.t 23), none, []⟩,
  ⟨some 110, .eqn false false (.t 109), none, [2]⟩,
  ⟨some 111, .bin .bool .neq (.t 108) (.t 110), none, [1, 3]⟩,
  ⟨some 112, .mov (.t 111), none, [4]⟩,
  ⟨some 113, .load (some 2) (.t 20), (some (112, false)), [5]⟩,
  ⟨some 114, .load (some 2) (.t 22), (some (112, false)), [5]⟩,
  ⟨some 115, .eqa true [(0, .int), (1, .int)] (.t 113) (.t 114), (some (112, false)), [6, 7, 5]⟩,
  ⟨some 116, .pick (.t 112) (.c (.bool true)) (.t 115), none, [5, 8]⟩] [] true)
  (.cond (.t 116)
    (.seq (.region [
  ⟨some 6, .mov (.c (.bool false)), none, []⟩] [] false)
    (.ret))
    (.skip)))
  (.seq (.region [
  ⟨some 118, .mov (.t 0), none, []⟩,
  ⟨some 119, .call false [] 293 [(.t 118), (.c (.slice none 0 0)), (.c (.slice none 0 0))], none, []⟩,
  ⟨some 117, .mov (.t 119), none, []⟩,
  ⟨some 120, .ext (.t 117) 0, none, []⟩,
  ⟨some 121, .ext (.t 117) 1, none, []⟩,
  ⟨some 24, .alloc [.int .i64 0, .int .i64 0], none, []⟩,
  ⟨none, .store 2 (.t 24) (.t 120), none, []⟩,
  ⟨some 25, .mov (.t 121), none, []⟩] [] false)
  (.seq (.regionJ ⟨[.slot 6 .bool], [122, 123, 124, 125, 126, 127, 128, 129, 130, 131, 132, 133, 134, 135, 136], [], []⟩ [
  ⟨some 122, .mov (.t 18), none, []⟩,
  ⟨some 123, .un .not (.t 122), none, []⟩,
  ⟨some 124, .mov (.t 123), none, []⟩,
  ⟨some 125, .mov (.t 25), (some (124, false)), []⟩,
  ⟨some 126, .eqn false false (.t 125), (some (124, false)), []⟩,
  ⟨some 127, .mov (.t 126), (some (124, false)), []⟩,
  ⟨some 128, .mov (.t 21), (some (127, true)), []⟩,
  ⟨some 129, .eqn false true (.t 128), (some (127, true)), []⟩,
  ⟨some 130, .mov (.t 129), (some (127, true)), []⟩,
  ⟨some 131, .load (some 2) (.t 24), (some (130, false)), []⟩,
  ⟨some 132, .load (some 2) (.t 20), (some (130, false)), []⟩,
  ⟨some 133, .eqa false [(0, .int), (1, .int)] (.t 131) (.t 132), (some (130, false)), []⟩,
  ⟨some 134, .pick (.t 130) (.c (.bool true)) (.t 133), (some (127, true)), []⟩,
  ⟨some 135, .pick (.t 127) (.t 134) (.c (.bool false)), (some (124, false)), []⟩,
  ⟨some 136, .pick (.t 124) (.c (.bool true)) (.t 135), none, []⟩,
  ⟨some 6, .mov (.t 136), none, []⟩] [] false)
  (.ret))))))))))))))))
def tf288 : TFunc := { np := 3, nt := 137, res := [.tmp 6], own := false, body := tc288 }
noncomputable def S288 (F244 : (List Node) → (Option (ByteArray × Err))) (F293 : (List Node) → (List ByteArray) → (List Cell) → (Option (Cell × Err))) (F295 : (List Node) → (Option ((List Node) × Err))) (F296 : (List Node) → (Option (Bool × Err))) (a0 : (List Node)) (a1 : (List ByteArray)) (a2 : (List Cell)) : Option Bool :=
  bno (F293 ([Node.mk (1 : Int) (2 : Int) (⟨#[]⟩ : ByteArray) (0 : Int) (0 : Int), Node.mk (1 : Int) (3 : Int) (⟨#[]⟩ : ByteArray) (0 : Int) (0 : Int), Node.mk (5 : Int) (0 : Int) (⟨#[]⟩ : ByteArray) (0 : Int) (1 : Int)] : List Node) ([] : List ByteArray) ([] : List Cell)) fun y1 =>
  jn (σ := Bool) (α := Bool) (br (!(Err.isNil y1.2))
  (inlO (some true))
  (br (decide (¬ (Cell.k y1.1) = (1 : Int)))
  (inlO (some true))
  (inlO (some (decide (¬ (Cell.n y1.1) = (6 : Int))))))) fun x2 =>
  br x2
  (some false)
  (bno (F295 a0) fun y3 =>
  br (!(Err.isNil y3.2))
  (some true)
  (bno (F295 y3.1) fun y4 =>
  bno (F244 a0) fun y5 =>
  bno (F244 y4.1) fun y6 =>
  bno (F296 a0) fun y7 =>
  jn (σ := Bool) (α := Bool) (br (!(Err.isNil y4.2))
  (inlO (some true))
  (br (!(Err.isNil y5.2))
  (inlO (some true))
  (br (!(Err.isNil y6.2))
  (inlO (some true))
  (br (!(Err.isNil y7.2))
  (inlO (some true))
  (inlO (some (decide (¬ y5.1 = y6.1)))))))) fun x8 =>
  br x8
  (some false)
  (bno (F293 a0 a1 a2) fun y9 =>
  bno (F293 y3.1 a1 a2) fun y10 =>
  jn (σ := Bool) (α := Bool) (br (decide (¬ (Err.isNil y9.2) = (Err.isNil y10.2)))
  (inlO (some true))
  (inlO (some (!(decide ((Cell.k y9.1) = (Cell.k y10.1)) && (decide ((Cell.n y9.1) = (Cell.n y10.1)) && true)))))) fun x11 =>
  br x11
  (some false)
  (bno (F293 a0 ([] : List ByteArray) ([] : List Cell)) fun y12 =>
  jn (σ := Bool) (α := Bool) (br (!y7.1)
  (inlO (some true))
  (br (Err.isNil y12.2)
  (br (!(Err.isNil y9.2))
  (inlO (some true))
  (inlO (some (decide ((Cell.k y12.1) = (Cell.k y9.1)) && (decide ((Cell.n y12.1) = (Cell.n y9.1)) && true)))))
  (inlO (some false)))) fun x13 =>
  some x13))))
theorem s288 (F244 : (List Node) → (Option (ByteArray × Err))) (F293 : (List Node) → (List ByteArray) → (List Cell) → (Option (Cell × Err))) (F295 : (List Node) → (Option ((List Node) × Err))) (F296 : (List Node) → (Option (Bool × Err))) (a0 : (List Node)) (a1 : (List ByteArray)) (a2 : (List Cell)) : tf288.run [⟨244, [(.sl .node)], (.tp [.str, .err]), fun x => F244 x, false, []⟩,
  ⟨293, [(.sl .node), (.sl .str), (.sl .cell)], (.tp [(.st .cell), .err]), fun x => F293 x.1 x.2.1 x.2.2, false, []⟩,
  ⟨295, [(.sl .node)], (.tp [(.sl .node), .err]), fun x => F295 x, false, []⟩,
  ⟨296, [(.sl .node)], (.tp [.bool, .err]), fun x => F296 x, false, []⟩] [(.sl .node), (.sl .str), (.sl .cell)] .bool (a0, a1, a2) = S288 F244 F293 F295 F296 a0 a1 a2 := by kernel_rfl
noncomputable def P288 (a0 : (List Node)) (a1 : (List ByteArray)) (a2 : (List Cell)) : Option Bool := S288 P244 P293 P295 P296 a0 a1 a2
noncomputable def k288 : CSpec := ⟨288, [(.sl .node), (.sl .str), (.sl .cell)], .bool, fun x => P288 x.1 x.2.1 x.2.2, false, []⟩
theorem r288 {S : Seat} (h : Ok1 S 288 tf288) (h244 : Rt S k244) (h293 : Rt S k293) (h295 : Rt S k295) (h296 : Rt S k296) : Rt S k288 := fun x y hy =>
  Ok1.sound h (C := [k244, k293, k295, k296]) (CSound.cons h244 (CSound.cons h293 (CSound.cons h295 (CSound.cons h296 CSound.nil)))) rfl rfl rfl ((s288 P244 P293 P295 P296 x.1 x.2.1 x.2.2).trans hy) rfl

end Ab
