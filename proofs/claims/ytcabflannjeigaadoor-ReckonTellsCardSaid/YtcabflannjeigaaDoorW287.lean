/-
  Functions of the program as typed code, what they come to, and their contracts: written by program (mk.py).
-/
import Derived.Test.YtcabflannjeigaaDoorB2
import Derived.KernelRfl
import Derived.Test.YtcabflannjeigaaDoorMR4
import Derived.Test.YtcabflannjeigaaDoorMRc
import Derived.Test.YtcabflannjeigaaDoorMRk
import Derived.Test.YtcabflannjeigaaDoorC1
import Derived.Test.YtcabflannjeigaaDoorMS3
import Derived.Test.YtcabflannjeigaaDoorMSr
namespace Ab
open Go
set_option linter.unusedVariables false
set_option maxRecDepth 100000

/- tallyhall/tallylaw2.ReckonTells -/
def tc287 : TCode :=
  .seq (.region [
  ⟨some 6, .mov (.c (.bool false)), none, []⟩] [] false)
  (.seq (.region [
  ⟨some 23, .mov (.t 0), none, []⟩,
  ⟨some 24, .call false [] 240 [(.t 23)], none, []⟩,
  ⟨some 7, .mov (.t 24), none, []⟩] [] false)
  (.seq (.region [
  ⟨some 25, .mov (.t 7), none, []⟩,
  ⟨some 8, .mov (.t 25), none, []⟩] [] false)
  (.seq (.seq (.regionJ ⟨[.slot 34 .bool], [26, 27, 28, 29, 30, 31, 32, 33], [], []⟩ [
  ⟨some 26, .mov (.t 8), none, []⟩,
  ⟨some 27, .bin .int .eql (.t 26) (.c (.int .i64 0)), none, []⟩,
  ⟨some 28, .mov (.t 27), none, []⟩,
  ⟨some 29, .mov (.t 1), (some (28, true)), []⟩,
  ⟨some 30, .len false (.t 29), (some (28, true)), []⟩,
  ⟨some 31, .mov (.t 2), (some (28, true)), []⟩,
  ⟨some 32, .len false (.t 31), (some (28, true)), []⟩,
  ⟨some 33, .bin .int .neq (.t 30) (.t 32), (some (28, true)), []⟩,
  ⟨some 34, .pick (.t 28) (.t 33) (.c (.bool false)), none, []⟩] [] false)
  (.condJ ⟨[.slot 8 .int], [], [], []⟩ (.t 34)
    (.region [
  ⟨some 8, .mov (.c (.int .i64 3)), none, []⟩] [] false)
    (.skip)))
  (.seq (.seq (.region [
  ⟨some 9, .mov (.c (.int .i64 0)), none, []⟩] [] false)
  (.loop ⟨[.slot 8 .int, .slot 9 .int], [35, 36, 37, 38, 39, 40, 41, 42, 43, 44, 45, 46, 47, 48, 49], [], []⟩ 0 (.seq (.seq (.regionJ ⟨[.slot 42 .bool], [35, 36, 37, 38, 39, 40, 41], [], []⟩ [
  ⟨some 35, .mov (.t 9), none, []⟩,
  ⟨some 36, .mov (.t 2), none, []⟩,
  ⟨some 37, .len false (.t 36), none, []⟩,
  ⟨some 38, .bin .int .lss (.t 35) (.t 37), none, []⟩,
  ⟨some 39, .mov (.t 38), none, []⟩,
  ⟨some 40, .mov (.t 8), (some (39, true)), []⟩,
  ⟨some 41, .bin .int .eql (.t 40) (.c (.int .i64 0)), (some (39, true)), []⟩,
  ⟨some 42, .pick (.t 39) (.t 41) (.c (.bool false)), none, []⟩] [] false)
    (.cond (.t 42)
      (.skip)
      (.exit 0)))
    (.seq (.block 1 (.region [
  ⟨some 45, .mov (.t 2), none, []⟩,
  ⟨some 46, .mov (.t 9), none, []⟩,
  ⟨some 47, .ia 2 (.t 45) (.t 46), none, []⟩,
  ⟨some 48, .load (some 2) (.t 47), none, []⟩,
  ⟨some 49, .call false [] 144 [(.t 48)], none, []⟩,
  ⟨some 8, .mov (.t 49), none, []⟩] [] false))
    (.region [
  ⟨some 43, .mov (.t 9), none, []⟩,
  ⟨some 44, .bin .int .add (.t 43) (.c (.int .i64 1)), none, []⟩,
  ⟨some 9, .mov (.t 44), none, []⟩] [] false)))))
  (.seq (.seq (.region [
  ⟨some 10, .mov (.c (.int .i64 1)), none, []⟩] [] false)
  (.loop ⟨[.slot 8 .int, .slot 10 .int], [50, 51, 52, 53, 54, 55, 56, 57, 58, 59, 60, 61, 62, 63, 64, 65, 66, 67, 68, 69], [], []⟩ 2 (.seq (.seq (.regionJ ⟨[.slot 57 .bool], [50, 51, 52, 53, 54, 55, 56], [], []⟩ [
  ⟨some 50, .mov (.t 10), none, []⟩,
  ⟨some 51, .mov (.t 1), none, []⟩,
  ⟨some 52, .len false (.t 51), none, []⟩,
  ⟨some 53, .bin .int .lss (.t 50) (.t 52), none, []⟩,
  ⟨some 54, .mov (.t 53), none, []⟩,
  ⟨some 55, .mov (.t 8), (some (54, true)), []⟩,
  ⟨some 56, .bin .int .eql (.t 55) (.c (.int .i64 0)), (some (54, true)), []⟩,
  ⟨some 57, .pick (.t 54) (.t 56) (.c (.bool false)), none, []⟩] [] false)
    (.cond (.t 57)
      (.skip)
      (.exit 2)))
    (.seq (.block 3 (.seq (.region [
  ⟨some 60, .mov (.t 1), none, []⟩,
  ⟨some 61, .mov (.t 10), none, []⟩,
  ⟨some 62, .ia 1 (.t 60) (.t 61), none, [0, 1]⟩,
  ⟨some 63, .load none (.t 62), none, [2]⟩,
  ⟨some 64, .mov (.t 1), none, []⟩,
  ⟨some 65, .mov (.t 10), none, []⟩,
  ⟨some 66, .bin .int .sub (.t 65) (.c (.int .i64 1)), none, [5]⟩,
  ⟨some 67, .ia 1 (.t 64) (.t 66), none, [4, 6]⟩,
  ⟨some 68, .load none (.t 67), none, [7]⟩,
  ⟨some 69, .bin .str .leq (.t 63) (.t 68), none, [3, 8]⟩] [] true)
      (.condJ ⟨[.slot 8 .int], [], [], []⟩ (.t 69)
        (.region [
  ⟨some 8, .mov (.c (.int .i64 7)), none, []⟩] [] false)
        (.skip))))
    (.region [
  ⟨some 58, .mov (.t 10), none, []⟩,
  ⟨some 59, .bin .int .add (.t 58) (.c (.int .i64 1)), none, []⟩,
  ⟨some 10, .mov (.t 59), none, []⟩] [] false)))))
  (.seq (.region [
  ⟨some 11, .mov (.c (.slice none 0 0)), none, []⟩] [] false)
  (.seq (.seq (.region [
  ⟨some 70, .mov (.t 7), none, []⟩,
  ⟨some 71, .bin .int .eql (.t 70) (.c (.int .i64 0)), none, []⟩] [] false)
  (.condJ ⟨[.slot 11 (.sl .str)], [72, 73], [], []⟩ (.t 71)
    (.region [
  ⟨some 72, .mov (.t 0), none, []⟩,
  ⟨some 73, .call true [] 243 [(.t 72)], none, []⟩,
  ⟨some 11, .mov (.t 73), none, []⟩] [] false)
    (.skip)))
  (.seq (.seq (.region [
  ⟨some 12, .mov (.c (.int .i64 0)), none, []⟩] [] false)
  (.loop ⟨[.slot 8 .int, .slot 12 .int], [74, 75, 76, 77, 78, 79, 80, 81, 82, 83, 84, 85, 86, 87, 88, 89, 90], [], []⟩ 4 (.seq (.seq (.regionJ ⟨[.slot 81 .bool], [74, 75, 76, 77, 78, 79, 80], [], []⟩ [
  ⟨some 74, .mov (.t 12), none, []⟩,
  ⟨some 75, .mov (.t 11), none, []⟩,
  ⟨some 76, .len false (.t 75), none, []⟩,
  ⟨some 77, .bin .int .lss (.t 74) (.t 76), none, []⟩,
  ⟨some 78, .mov (.t 77), none, []⟩,
  ⟨some 79, .mov (.t 8), (some (78, true)), []⟩,
  ⟨some 80, .bin .int .eql (.t 79) (.c (.int .i64 0)), (some (78, true)), []⟩,
  ⟨some 81, .pick (.t 78) (.t 80) (.c (.bool false)), none, []⟩] [] false)
    (.cond (.t 81)
      (.skip)
      (.exit 4)))
    (.seq (.block 5 (.seq (.region [
  ⟨some 84, .mov (.t 1), none, []⟩,
  ⟨some 85, .mov (.t 11), none, []⟩,
  ⟨some 86, .mov (.t 12), none, []⟩,
  ⟨some 87, .ia 1 (.t 85) (.t 86), none, []⟩,
  ⟨some 88, .load none (.t 87), none, []⟩,
  ⟨some 89, .call false [] 291 [(.t 84), (.t 88)], none, []⟩,
  ⟨some 90, .bin .int .lss (.t 89) (.c (.int .i64 0)), none, []⟩] [] false)
      (.condJ ⟨[.slot 8 .int], [], [], []⟩ (.t 90)
        (.region [
  ⟨some 8, .mov (.c (.int .i64 5)), none, []⟩] [] false)
        (.skip))))
    (.region [
  ⟨some 82, .mov (.t 12), none, []⟩,
  ⟨some 83, .bin .int .add (.t 82) (.c (.int .i64 1)), none, []⟩,
  ⟨some 12, .mov (.t 83), none, []⟩] [] false)))))
  (.seq (.region [
  ⟨some 13, .alloc [.int .i64 0, .int .i64 0], none, []⟩] [] false)
  (.seq (.seq (.region [
  ⟨some 91, .mov (.t 8), none, []⟩,
  ⟨some 92, .bin .int .eql (.t 91) (.c (.int .i64 0)), none, []⟩] [] false)
  (.condJ ⟨[.var 13 [.sh .int, .sh .int]], [93, 94, 95, 96, 97, 98, 99], [], []⟩ (.t 92)
    (.region [
  ⟨some 93, .mov (.t 0), none, []⟩,
  ⟨some 94, .mov (.t 0), none, []⟩,
  ⟨some 95, .len false (.t 94), none, []⟩,
  ⟨some 96, .bin .int .sub (.t 95) (.c (.int .i64 1)), none, []⟩,
  ⟨some 97, .mov (.t 1), none, []⟩,
  ⟨some 98, .mov (.t 2), none, []⟩,
  ⟨some 99, .call false [] 292 [(.t 93), (.t 96), (.t 97), (.t 98)], none, []⟩,
  ⟨none, .store 2 (.t 13) (.t 99), none, []⟩] [] false)
    (.skip)))
  (.seq (.region [
  ⟨some 101, .mov (.t 0), none, []⟩,
  ⟨some 102, .mov (.t 1), none, []⟩,
  ⟨some 103, .mov (.t 2), none, []⟩,
  ⟨some 104, .call false [] 293 [(.t 101), (.t 102), (.t 103)], none, []⟩,
  ⟨some 100, .mov (.t 104), none, []⟩,
  ⟨some 105, .ext (.t 100) 0, none, []⟩,
  ⟨some 106, .ext (.t 100) 1, none, []⟩,
  ⟨some 14, .alloc [.int .i64 0, .int .i64 0], none, []⟩,
  ⟨none, .store 2 (.t 14) (.t 105), none, []⟩,
  ⟨some 15, .mov (.t 106), none, []⟩] [] false)
  (.seq (.region [
  ⟨some 107, .mov (.t 15), none, []⟩,
  ⟨some 108, .mov (.t 8), none, []⟩,
  ⟨some 109, .call false [] 92 [(.t 107), (.t 108)], none, []⟩,
  ⟨some 16, .mov (.t 109), none, []⟩] [] false)
  (.seq (.region [
  ⟨some 17, .mov (.c (.slice none 0 0)), none, []⟩] [] false)
  (.seq (.seq (.region [
  ⟨some 110, .mov (.t 7), none, []⟩,
  ⟨some 111, .bin .int .eql (.t 110) (.c (.int .i64 0)), none, []⟩] [] false)
  (.condJ ⟨[.slot 17 (.sl .node)], [112, 113, 114, 115, 116], [], []⟩ (.t 111)
    (.region [
  ⟨some 112, .mov (.t 0), none, []⟩,
  ⟨some 113, .mov (.t 0), none, []⟩,
  ⟨some 114, .len false (.t 113), none, []⟩,
  ⟨some 115, .bin .int .sub (.t 114) (.c (.int .i64 1)), none, []⟩,
  ⟨some 116, .call true [] 294 [(.c (.slice none 0 0)), (.t 112), (.t 115)], none, []⟩,
  ⟨some 17, .mov (.t 116), none, []⟩] [] false)
    (.skip)))
  (.seq (.region [
  ⟨some 118, .mov (.t 0), none, []⟩,
  ⟨some 119, .call true [] 295 [(.t 118)], none, []⟩,
  ⟨some 117, .mov (.t 119), none, []⟩,
  ⟨some 120, .ext (.t 117) 0, none, []⟩,
  ⟨some 121, .ext (.t 117) 1, none, []⟩,
  ⟨some 18, .mov (.t 120), none, []⟩,
  ⟨some 15, .mov (.t 121), none, []⟩] [] false)
  (.seq (.region [
  ⟨some 122, .mov (.t 15), none, []⟩,
  ⟨some 123, .mov (.t 7), none, []⟩,
  ⟨some 124, .call false [] 92 [(.t 122), (.t 123)], none, []⟩,
  ⟨some 19, .mov (.t 124), none, []⟩] [] false)
  (.seq (.region [
  ⟨some 125, .mov (.t 18), none, []⟩,
  ⟨some 126, .mov (.t 17), none, []⟩,
  ⟨some 127, .call false [] 249 [(.t 125), (.t 126)], none, []⟩,
  ⟨some 20, .mov (.t 127), none, []⟩] [] false)
  (.seq (.region [
  ⟨some 129, .mov (.t 0), none, []⟩,
  ⟨some 130, .call false [] 296 [(.t 129)], none, []⟩,
  ⟨some 128, .mov (.t 130), none, []⟩,
  ⟨some 131, .ext (.t 128) 0, none, []⟩,
  ⟨some 132, .ext (.t 128) 1, none, []⟩,
  ⟨some 21, .mov (.t 131), none, []⟩,
  ⟨some 15, .mov (.t 132), none, []⟩] [] false)
  (.seq (.region [
  ⟨some 133, .mov (.t 15), none, []⟩,
  ⟨some 134, .mov (.t 7), none, []⟩,
  ⟨some 135, .call false [] 92 [(.t 133), (.t 134)], none, []⟩,
  ⟨some 22, .mov (.t 135), none, []⟩] [] false)
  (.seq (.regionJ ⟨[.slot 6 .bool], [136, 137, 138, 139, 140, 141, 142, 143, 144, 145, 146, 147, 148, 149, 150, 151, 152, 153, 154, 155, 156, 157, 158, 159, 160, 161], [], []⟩ [
  ⟨some 136, .mov (.t 16), none, []⟩,
  ⟨some 137, .mov (.t 136), none, []⟩,
  ⟨some 138, .mov (.t 19), (some (137, true)), []⟩,
  ⟨some 139, .pick (.t 137) (.t 138) (.c (.bool false)), none, []⟩,
  ⟨some 140, .mov (.t 139), none, []⟩,
  ⟨some 141, .mov (.t 22), (some (140, true)), []⟩,
  ⟨some 142, .pick (.t 140) (.t 141) (.c (.bool false)), none, []⟩,
  ⟨some 143, .mov (.t 142), none, []⟩,
  ⟨some 144, .mov (.t 20), (some (143, true)), []⟩,
  ⟨some 145, .pick (.t 143) (.t 144) (.c (.bool false)), none, []⟩,
  ⟨some 146, .mov (.t 145), none, []⟩,
  ⟨some 147, .load (some 2) (.t 14), (some (146, true)), []⟩,
  ⟨some 148, .load (some 2) (.t 13), (some (146, true)), []⟩,
  ⟨some 149, .eqa false [(0, .int), (1, .int)] (.t 147) (.t 148), (some (146, true)), []⟩,
  ⟨some 150, .pick (.t 146) (.t 149) (.c (.bool false)), none, []⟩,
  ⟨some 151, .mov (.t 150), none, []⟩,
  ⟨some 152, .mov (.t 21), (some (151, true)), []⟩,
  ⟨some 153, .mov (.t 7), (some (151, true)), []⟩,
  ⟨some 154, .bin .int .eql (.t 153) (.c (.int .i64 0)), (some (151, true)), []⟩,
  ⟨some 155, .mov (.t 154), (some (151, true)), []⟩,
  ⟨some 156, .mov (.t 11), (some (155, true)), []⟩,
  ⟨some 157, .len false (.t 156), (some (155, true)), []⟩,
  ⟨some 158, .bin .int .eql (.t 157) (.c (.int .i64 0)), (some (155, true)), []⟩,
  ⟨some 159, .pick (.t 155) (.t 158) (.c (.bool false)), (some (151, true)), []⟩,
  ⟨some 160, .bin .bool .eql (.t 152) (.t 159), (some (151, true)), []⟩,
  ⟨some 161, .pick (.t 151) (.t 160) (.c (.bool false)), none, []⟩,
  ⟨some 6, .mov (.t 161), none, []⟩] [] false)
  (.ret)))))))))))))))))))))
def tf287 : TFunc := { np := 3, nt := 162, res := [.tmp 6], own := false, body := tc287 }
noncomputable def S287_L1 (F144 : Cell → (Option Int)) (a2 : (List Cell)) (x4 : (Int × Int)) : Option (LR (Int × Int) Bool) :=
  jn (σ := Bool) (α := (LR (Int × Int) Bool)) (br (decide (x4.2 < ((List.length a2 : Nat) : Int)))
  (inlO (some (decide (x4.1 = (0 : Int)))))
  (inlO (some false))) fun x5 =>
  br x5
  (bno (lookI a2 x4.2) fun y6 =>
  bno (F144 y6) fun y7 =>
  nxO (some (y7, wi (x4.2 + (1 : Int)))))
  (dnO (some (x4.1, x4.2)))
noncomputable def S287_L2 (a1 : (List ByteArray)) (x9 : (Int × Int)) : Option (LR (Int × Int) Bool) :=
  jn (σ := Bool) (α := (LR (Int × Int) Bool)) (br (decide (x9.2 < ((List.length a1 : Nat) : Int)))
  (inlO (some (decide (x9.1 = (0 : Int)))))
  (inlO (some false))) fun x10 =>
  br x10
  (bno (lookI a1 x9.2) fun y11 =>
  bno (lookI a1 (wi (x9.2 - (1 : Int)))) fun y12 =>
  jn (σ := Int) (α := (LR (Int × Int) Bool)) (br (Op.bytesLess (ByteArray.toList y11) (ByteArray.toList y12) || strEq y11 y12)
  (inlO (some (7 : Int)))
  (inlO (some x9.1))) fun x13 =>
  nxO (some (x13, wi (x9.2 + (1 : Int)))))
  (dnO (some (x9.1, x9.2)))
noncomputable def S287_L3 (F291 : (List ByteArray) → ByteArray → (Option Int)) (a1 : (List ByteArray)) (x16 : (List ByteArray)) (x17 : (Int × Int)) : Option (LR (Int × Int) Bool) :=
  jn (σ := Bool) (α := (LR (Int × Int) Bool)) (br (decide (x17.2 < ((List.length x16 : Nat) : Int)))
  (inlO (some (decide (x17.1 = (0 : Int)))))
  (inlO (some false))) fun x18 =>
  br x18
  (bno (lookI x16 x17.2) fun y19 =>
  bno (F291 a1 y19) fun y20 =>
  jn (σ := Int) (α := (LR (Int × Int) Bool)) (br (decide (y20 < (0 : Int)))
  (inlO (some (5 : Int)))
  (inlO (some x17.1))) fun x21 =>
  nxO (some (x21, wi (x17.2 + (1 : Int)))))
  (dnO (some (x17.1, x17.2)))
noncomputable def S287 (F144 : Cell → (Option Int)) (F240 : (List Node) → (Option Int)) (F243 : (List Node) → (Option (List ByteArray))) (F249 : (List Node) → (List Node) → (Option Bool)) (F291 : (List ByteArray) → ByteArray → (Option Int)) (F292 : (List Node) → Int → (List ByteArray) → (List Cell) → (Option Cell)) (F293 : (List Node) → (List ByteArray) → (List Cell) → (Option (Cell × Err))) (F294 : (Option (List Node)) → (List Node) → Int → (Option (List Node))) (F295 : (List Node) → (Option ((List Node) × Err))) (F296 : (List Node) → (Option (Bool × Err))) (F92 : Err → Int → (Option Bool)) (a0 : (List Node)) (a1 : (List ByteArray)) (a2 : (List Cell)) : Option Bool :=
  bno (F240 a0) fun y1 =>
  jn (σ := Bool) (α := Bool) (br (decide (y1 = (0 : Int)))
  (inlO (some (decide (¬ ((List.length a1 : Nat) : Int) = ((List.length a2 : Nat) : Int)))))
  (inlO (some false))) fun x2 =>
  jn (σ := Int) (α := Bool) (br x2
  (inlO (some (3 : Int)))
  (inlO (some y1))) fun x3 =>
  lp (S287_L1 F144 a2) (x3, (0 : Int)) fun x8 =>
  lp (S287_L2 a1) (x8.1, (1 : Int)) fun x14 =>
  jn (σ := (List ByteArray)) (α := Bool) (br (decide (y1 = (0 : Int)))
  (bno (F243 a0) fun y15 =>
  inlO (some y15))
  (inlO (some ([] : List ByteArray)))) fun x16 =>
  lp (S287_L3 F291 a1 x16) (x14.1, (0 : Int)) fun x22 =>
  jn (σ := (Int × Int)) (α := Bool) (br (decide (x22.1 = (0 : Int)))
  (bno (F292 a0 (wi (((List.length a0 : Nat) : Int) - (1 : Int))) a1 a2) fun y23 =>
  inlO (some (Cell.k y23, Cell.n y23)))
  (inlO (some ((0 : Int), (0 : Int))))) fun x24 =>
  bno (F293 a0 a1 a2) fun y25 =>
  bno (F92 y25.2 x22.1) fun y26 =>
  jn (σ := (List Node)) (α := Bool) (br (decide (y1 = (0 : Int)))
  (bno (F294 none a0 (wi (((List.length a0 : Nat) : Int) - (1 : Int)))) fun y27 =>
  inlO (some y27))
  (inlO (some ([] : List Node)))) fun x28 =>
  bno (F295 a0) fun y29 =>
  bno (F92 y29.2 y1) fun y30 =>
  bno (F249 y29.1 x28) fun y31 =>
  bno (F296 a0) fun y32 =>
  bno (F92 y32.2 y1) fun y33 =>
  jn (σ := Bool) (α := Bool) (br y26
  (br y30
  (br y33
  (br y31
  (br (decide ((Cell.k y25.1) = x24.1) && (decide ((Cell.n y25.1) = x24.2) && true))
  (br (decide (y1 = (0 : Int)))
  (inlO (some (decide (y32.1 = (decide (((List.length x16 : Nat) : Int) = (0 : Int)))))))
  (inlO (some (decide (y32.1 = false)))))
  (inlO (some false)))
  (inlO (some false)))
  (inlO (some false)))
  (inlO (some false)))
  (inlO (some false))) fun x34 =>
  some x34
theorem s287 (F144 : Cell → (Option Int)) (F240 : (List Node) → (Option Int)) (F243 : (List Node) → (Option (List ByteArray))) (F249 : (List Node) → (List Node) → (Option Bool)) (F291 : (List ByteArray) → ByteArray → (Option Int)) (F292 : (List Node) → Int → (List ByteArray) → (List Cell) → (Option Cell)) (F293 : (List Node) → (List ByteArray) → (List Cell) → (Option (Cell × Err))) (F294 : (Option (List Node)) → (List Node) → Int → (Option (List Node))) (F295 : (List Node) → (Option ((List Node) × Err))) (F296 : (List Node) → (Option (Bool × Err))) (F92 : Err → Int → (Option Bool)) (a0 : (List Node)) (a1 : (List ByteArray)) (a2 : (List Cell)) : tf287.run [⟨144, [(.st .cell)], .int, fun x => F144 x, false, []⟩,
  ⟨240, [(.sl .node)], .int, fun x => F240 x, false, []⟩,
  ⟨243, [(.sl .node)], (.sl .str), fun x => F243 x, false, []⟩,
  ⟨249, [(.sl .node), (.sl .node)], .bool, fun x => F249 x.1 x.2, false, []⟩,
  ⟨291, [(.sl .str), .str], .int, fun x => F291 x.1 x.2, false, []⟩,
  ⟨292, [(.sl .node), .int, (.sl .str), (.sl .cell)], (.st .cell), fun x => F292 x.1 x.2.1 x.2.2.1 x.2.2.2, false, []⟩,
  ⟨293, [(.sl .node), (.sl .str), (.sl .cell)], (.tp [(.st .cell), .err]), fun x => F293 x.1 x.2.1 x.2.2, false, []⟩,
  ⟨294, [(.ns .node), (.sl .node), .int], (.sl .node), fun x => F294 x.1 x.2.1 x.2.2, false, []⟩,
  ⟨295, [(.sl .node)], (.tp [(.sl .node), .err]), fun x => F295 x, false, []⟩,
  ⟨296, [(.sl .node)], (.tp [.bool, .err]), fun x => F296 x, false, []⟩,
  ⟨92, [.err, .int], .bool, fun x => F92 x.1 x.2, false, []⟩] [(.sl .node), (.sl .str), (.sl .cell)] .bool (a0, a1, a2) = S287 F144 F240 F243 F249 F291 F292 F293 F294 F295 F296 F92 a0 a1 a2 := by kernel_rfl
noncomputable def P287 (a0 : (List Node)) (a1 : (List ByteArray)) (a2 : (List Cell)) : Option Bool := S287 P144 P240 P243 P249 P291 P292 P293 P294 P295 P296 P92 a0 a1 a2
noncomputable def k287 : CSpec := ⟨287, [(.sl .node), (.sl .str), (.sl .cell)], .bool, fun x => P287 x.1 x.2.1 x.2.2, false, []⟩
theorem r287 {S : Seat} (h : Ok1 S 287 tf287) (h144 : Rt S k144) (h240 : Rt S k240) (h243 : Rt S k243) (h249 : Rt S k249) (h291 : Rt S k291) (h292 : Rt S k292) (h293 : Rt S k293) (h294 : Rt S k294) (h295 : Rt S k295) (h296 : Rt S k296) (h92 : Rt S k92) : Rt S k287 := fun x y hy =>
  Ok1.sound h (C := [k144, k240, k243, k249, k291, k292, k293, k294, k295, k296, k92]) (CSound.cons h144 (CSound.cons h240 (CSound.cons h243 (CSound.cons h249 (CSound.cons h291 (CSound.cons h292 (CSound.cons h293 (CSound.cons h294 (CSound.cons h295 (CSound.cons h296 (CSound.cons h92 CSound.nil))))))))))) rfl rfl rfl ((s287 P144 P240 P243 P249 P291 P292 P293 P294 P295 P296 P92 x.1 x.2.1 x.2.2).trans hy) rfl

end Ab
