/-
  Functions of the program as typed code, what they come to, and their contracts: written by program (mk.py).
-/
import Derived.Test.YtcabflannjeigaaGreatDoorB2
import Derived.KernelRfl
import Derived.Test.YtcabflannjeigaaGreatDoorC3
import Derived.Test.YtcabflannjeigaaGreatDoorMRc
namespace Ab
open Go
set_option linter.unusedVariables false
set_option maxRecDepth 100000

/- tallyhall/tallyref2.Formula -/
def tc240 : TCode :=
  .seq (.region [
  ⟨some 2, .mov (.c (.int .i64 0)), none, []⟩] [] false)
  (.seq (.seq (.region [
  ⟨some 7, .mov (.t 0), none, []⟩,
  ⟨some 8, .len false (.t 7), none, []⟩,
  ⟨some 9, .bin .int .eql (.t 8) (.c (.int .i64 0)), none, []⟩] [] false)
  (.cond (.t 9)
    (.seq (.region [
  ⟨some 2, .mov (.c (.int .i64 5)), none, []⟩] [] false)
    (.ret))
    (.skip)))
  (.seq (.seq (.region [
  ⟨some 10, .mov (.t 0), none, []⟩,
  ⟨some 11, .len false (.t 10), none, []⟩,
  ⟨some 12, .bin .int .gtr (.t 11) (.c (.int .i64 30)), none, []⟩] [] false)
  (.cond (.t 12)
    (.seq (.region [
  ⟨some 2, .mov (.c (.int .i64 4)), none, []⟩] [] false)
    (.ret))
    (.skip)))
  (.seq (.region [
  ⟨some 13, .mov (.t 0), none, []⟩,
  ⟨some 14, .len false (.t 13), none, []⟩,
  ⟨some 15, .mksl 1 [.int .i64 0] (.t 14) (.t 14), none, []⟩,
  ⟨some 3, .mov (.t 15), none, []⟩] [] false)
  (.seq (.seq (.region [
  ⟨some 4, .mov (.c (.int .i64 0)), none, []⟩] [] false)
  (.loop ⟨[.slot 4 .int, .rowH 15 .int], [5, 16, 17, 18, 19, 20, 21, 22, 23, 24, 25, 26, 27, 28, 29, 30, 31, 32, 33, 34, 35, 36, 37, 38, 39, 40, 41, 42, 43, 44, 45, 46, 47, 48, 49, 50, 51, 52, 53, 54, 55, 56, 57, 58, 59, 60, 61, 62, 63, 64, 65, 66, 67, 68, 69, 70, 71, 72, 73, 74, 75, 76, 77, 78, 79, 80, 81, 82, 83, 84, 85, 86, 87, 88, 89, 90, 91, 92, 93, 94, 95, 96, 97, 98, 99, 100, 101, 102, 103, 104, 105, 106, 107, 108, 109, 110, 111, 112, 113, 114, 115, 116, 117, 118, 119], [5], []⟩ 0 (.seq (.seq (.region [
  ⟨some 16, .mov (.t 4), none, []⟩,
  ⟨some 17, .mov (.t 0), none, []⟩,
  ⟨some 18, .len false (.t 17), none, []⟩,
  ⟨some 19, .bin .int .lss (.t 16) (.t 18), none, []⟩] [] false)
    (.cond (.t 19)
      (.skip)
      (.exit 0)))
    (.seq (.blockJ ⟨[.rowH 15 .int], [5, 22, 23, 24, 25, 26, 27, 28, 29, 30, 31, 32, 33, 34, 35, 36, 37, 38, 39, 40, 41, 42, 43, 44, 45, 46, 47, 48, 49, 50, 51, 52, 53, 54, 55, 56, 57, 58, 59, 60, 61, 62, 63, 64, 65, 66, 67, 68, 69, 70, 71, 72, 73, 74, 75, 76, 77, 78, 79, 80, 81, 82, 83, 84, 85, 86, 87, 88, 89, 90, 91, 92, 93, 94, 95, 96, 97, 98, 99, 100, 101, 102, 103, 104, 105, 106, 107, 108, 109, 110, 111, 112, 113, 114, 115, 116, 117, 118, 119], [5], []⟩ 1 (.seq (.region [
  ⟨some 22, .mov (.t 0), none, []⟩,
  ⟨some 23, .mov (.t 4), none, []⟩,
  ⟨some 24, .ia 5 (.t 22) (.t 23), none, []⟩,
  ⟨some 25, .load (some 5) (.t 24), none, []⟩,
  ⟨some 5, .alloc [.int .i64 0, .int .i64 0, .string ⟨#[]⟩, .int .i64 0, .int .i64 0], none, []⟩,
  ⟨none, .store 5 (.t 5) (.t 25), none, []⟩] [] false)
      (.seq (.seq (.regionJ ⟨[.slot 33 .bool], [26, 27, 28, 29, 30, 31, 32], [], []⟩ [
  ⟨some 26, .fa 0 (.t 5), none, []⟩,
  ⟨some 27, .load none (.t 26), none, []⟩,
  ⟨some 28, .bin .int .lss (.t 27) (.c (.int .i64 1)), none, []⟩,
  ⟨some 29, .mov (.t 28), none, []⟩,
  ⟨some 30, .fa 0 (.t 5), (some (29, false)), []⟩,
  ⟨some 31, .load none (.t 30), (some (29, false)), []⟩,
  ⟨some 32, .bin .int .gtr (.t 31) (.c (.int .i64 6)), (some (29, false)), []⟩,
  ⟨some 33, .pick (.t 29) (.c (.bool true)) (.t 32), none, []⟩] [] false)
      (.cond (.t 33)
        (.seq (.region [
  ⟨some 2, .mov (.c (.int .i64 1)), none, []⟩] [] false)
        (.ret))
        (.skip)))
      (.seq (.seq (.region [
  ⟨some 34, .fa 0 (.t 5), none, []⟩,
  ⟨some 35, .load none (.t 34), none, []⟩,
  ⟨some 36, .bin .int .eql (.t 35) (.c (.int .i64 1)), none, []⟩] [] false)
      (.cond (.t 36)
        (.seq (.seq (.regionJ ⟨[.slot 44 .bool], [37, 38, 39, 40, 41, 42, 43], [], []⟩ [
  ⟨some 37, .fa 1 (.t 5), none, []⟩,
  ⟨some 38, .load none (.t 37), none, []⟩,
  ⟨some 39, .bin .int .lss (.t 38) (.c (.int .i64 0)), none, []⟩,
  ⟨some 40, .mov (.t 39), none, []⟩,
  ⟨some 41, .fa 1 (.t 5), (some (40, false)), []⟩,
  ⟨some 42, .load none (.t 41), (some (40, false)), []⟩,
  ⟨some 43, .bin .int .gtr (.t 42) (.c (.int .i64 1000000)), (some (40, false)), []⟩,
  ⟨some 44, .pick (.t 40) (.c (.bool true)) (.t 43), none, []⟩] [] false)
        (.cond (.t 44)
          (.seq (.region [
  ⟨some 2, .mov (.c (.int .i64 1)), none, []⟩] [] false)
          (.ret))
          (.skip)))
        (.seq (.seq (.regionJ ⟨[.slot 57 .bool], [45, 46, 47, 48, 49, 50, 51, 52, 53, 54, 55, 56], [], []⟩ [
  ⟨some 45, .fa 2 (.t 5), none, []⟩,
  ⟨some 46, .load none (.t 45), none, []⟩,
  ⟨some 47, .bin .str .neq (.t 46) (.c (.string ⟨#[]⟩)), none, []⟩,
  ⟨some 48, .mov (.t 47), none, []⟩,
  ⟨some 49, .fa 3 (.t 5), (some (48, false)), []⟩,
  ⟨some 50, .load none (.t 49), (some (48, false)), []⟩,
  ⟨some 51, .bin .int .neq (.t 50) (.c (.int .i64 0)), (some (48, false)), []⟩,
  ⟨some 52, .pick (.t 48) (.c (.bool true)) (.t 51), none, []⟩,
  ⟨some 53, .mov (.t 52), none, []⟩,
  ⟨some 54, .fa 4 (.t 5), (some (53, false)), []⟩,
  ⟨some 55, .load none (.t 54), (some (53, false)), []⟩,
  ⟨some 56, .bin .int .neq (.t 55) (.c (.int .i64 0)), (some (53, false)), []⟩,
  ⟨some 57, .pick (.t 53) (.c (.bool true)) (.t 56), none, []⟩] [] false)
        (.cond (.t 57)
          (.seq (.region [
  ⟨some 2, .mov (.c (.int .i64 3)), none, []⟩] [] false)
          (.ret))
          (.skip)))
        (.exit 1)))
        (.skip)))
      (.seq (.seq (.region [
  ⟨some 58, .fa 0 (.t 5), none, []⟩,
  ⟨some 59, .load none (.t 58), none, []⟩,
  ⟨some 60, .bin .int .eql (.t 59) (.c (.int .i64 2)), none, []⟩] [] false)
      (.cond (.t 60)
        (.seq (.seq (.region [
  ⟨some 61, .fa 2 (.t 5), none, []⟩,
  ⟨some 62, .load none (.t 61), none, []⟩,
  ⟨some 63, .call false [] 97 [(.t 62)], none, []⟩,
  ⟨some 64, .bin .int .neq (.t 63) (.c (.int .i64 0)), none, []⟩] [] false)
        (.cond (.t 64)
          (.seq (.region [
  ⟨some 2, .mov (.c (.int .i64 2)), none, []⟩] [] false)
          (.ret))
          (.skip)))
        (.seq (.seq (.regionJ ⟨[.slot 77 .bool], [65, 66, 67, 68, 69, 70, 71, 72, 73, 74, 75, 76], [], []⟩ [
  ⟨some 65, .fa 1 (.t 5), none, []⟩,
  ⟨some 66, .load none (.t 65), none, []⟩,
  ⟨some 67, .bin .int .neq (.t 66) (.c (.int .i64 0)), none, []⟩,
  ⟨some 68, .mov (.t 67), none, []⟩,
  ⟨some 69, .fa 3 (.t 5), (some (68, false)), []⟩,
  ⟨some 70, .load none (.t 69), (some (68, false)), []⟩,
  ⟨some 71, .bin .int .neq (.t 70) (.c (.int .i64 0)), (some (68, false)), []⟩,
  ⟨some 72, .pick (.t 68) (.c (.bool true)) (.t 71), none, []⟩,
  ⟨some 73, .mov (.t 72), none, []⟩,
  ⟨some 74, .fa 4 (.t 5), (some (73, false)), []⟩,
  ⟨some 75, .load none (.t 74), (some (73, false)), []⟩,
  ⟨some 76, .bin .int .neq (.t 75) (.c (.int .i64 0)), (some (73, false)), []⟩,
  ⟨some 77, .pick (.t 73) (.c (.bool true)) (.t 76), none, []⟩] [] false)
        (.cond (.t 77)
          (.seq (.region [
  ⟨some 2, .mov (.c (.int .i64 3)), none, []⟩] [] false)
          (.ret))
          (.skip)))
        (.exit 1)))
        (.skip)))
      (.seq (.seq (.regionJ ⟨[.slot 97 .bool], [78, 79, 80, 81, 82, 83, 84, 85, 86, 87, 88, 89, 90, 91, 92, 93, 94, 95, 96], [], []⟩ [
  ⟨some 78, .fa 3 (.t 5), none, []⟩,
  ⟨some 79, .load none (.t 78), none, []⟩,
  ⟨some 80, .bin .int .lss (.t 79) (.c (.int .i64 0)), none, []⟩,
  ⟨some 81, .mov (.t 80), none, []⟩,
  ⟨some 82, .fa 3 (.t 5), (some (81, false)), []⟩,
  ⟨some 83, .load none (.t 82), (some (81, false)), []⟩,
  ⟨some 84, .mov (.t 4), (some (81, false)), []⟩,
  ⟨some 85, .bin .int .geq (.t 83) (.t 84), (some (81, false)), []⟩,
  ⟨some 86, .pick (.t 81) (.c (.bool true)) (.t 85), none, []⟩,
  ⟨some 87, .mov (.t 86), none, []⟩,
  ⟨some 88, .fa 4 (.t 5), (some (87, false)), []⟩,
  ⟨some 89, .load none (.t 88), (some (87, false)), []⟩,
  ⟨some 90, .bin .int .lss (.t 89) (.c (.int .i64 0)), (some (87, false)), []⟩,
  ⟨some 91, .pick (.t 87) (.c (.bool true)) (.t 90), none, []⟩,
  ⟨some 92, .mov (.t 91), none, []⟩,
  ⟨some 93, .fa 4 (.t 5), (some (92, false)), []⟩,
  ⟨some 94, .load none (.t 93), (some (92, false)), []⟩,
  ⟨some 95, .mov (.t 4), (some (92, false)), []⟩,
  ⟨some 96, .bin .int .geq (.t 94) (.t 95), (some (92, false)), []⟩,
  ⟨some 97, .pick (.t 92) (.c (.bool true)) (.t 96), none, []⟩] [] false)
      (.cond (.t 97)
        (.seq (.region [
  ⟨some 2, .mov (.c (.int .i64 1)), none, []⟩] [] false)
        (.ret))
        (.skip)))
      (.seq (.seq (.regionJ ⟨[.slot 105 .bool], [98, 99, 100, 101, 102, 103, 104], [], []⟩ [
  ⟨some 98, .fa 1 (.t 5), none, []⟩,
  ⟨some 99, .load none (.t 98), none, []⟩,
  ⟨some 100, .bin .int .neq (.t 99) (.c (.int .i64 0)), none, []⟩,
  ⟨some 101, .mov (.t 100), none, []⟩,
  ⟨some 102, .fa 2 (.t 5), (some (101, false)), []⟩,
  ⟨some 103, .load none (.t 102), (some (101, false)), []⟩,
  ⟨some 104, .bin .str .neq (.t 103) (.c (.string ⟨#[]⟩)), (some (101, false)), []⟩,
  ⟨some 105, .pick (.t 101) (.c (.bool true)) (.t 104), none, []⟩] [] false)
      (.cond (.t 105)
        (.seq (.region [
  ⟨some 2, .mov (.c (.int .i64 3)), none, []⟩] [] false)
        (.ret))
        (.skip)))
      (.seq (.region [
  ⟨some 106, .mov (.t 3), none, []⟩,
  ⟨some 107, .fa 3 (.t 5), none, []⟩,
  ⟨some 108, .load none (.t 107), none, []⟩,
  ⟨some 109, .ia 1 (.t 106) (.t 108), none, []⟩,
  ⟨some 110, .load none (.t 109), none, []⟩,
  ⟨some 111, .bin .int .add (.t 110) (.c (.int .i64 1)), none, []⟩,
  ⟨some 112, .ia 1 (.t 106) (.t 108), none, []⟩,
  ⟨none, .store 1 (.t 112) (.t 111), none, []⟩] [] false)
      (.region [
  ⟨some 113, .mov (.t 3), none, []⟩,
  ⟨some 114, .fa 4 (.t 5), none, []⟩,
  ⟨some 115, .load none (.t 114), none, []⟩,
  ⟨some 116, .ia 1 (.t 113) (.t 115), none, []⟩,
  ⟨some 117, .load none (.t 116), none, []⟩,
  ⟨some 118, .bin .int .add (.t 117) (.c (.int .i64 1)), none, []⟩,
  ⟨some 119, .ia 1 (.t 113) (.t 115), none, []⟩,
  ⟨none, .store 1 (.t 119) (.t 118), none, []⟩] [] false)))))))))
    (.region [
  ⟨some 20, .mov (.t 4), none, []⟩,
  ⟨some 21, .bin .int .add (.t 20) (.c (.int .i64 1)), none, []⟩,
  ⟨some 4, .mov (.t 21), none, []⟩] [] false)))))
  (.seq (.seq (.region [
  ⟨some 6, .mov (.c (.int .i64 0)), none, []⟩] [] false)
  (.loop ⟨[.slot 6 .int], [120, 121, 122, 123, 124, 125, 126, 127, 128, 129, 130, 131], [], []⟩ 2 (.seq (.seq (.region [
  ⟨some 120, .mov (.t 6), none, []⟩,
  ⟨some 121, .mov (.t 0), none, []⟩,
  ⟨some 122, .len false (.t 121), none, []⟩,
  ⟨some 123, .bin .int .sub (.t 122) (.c (.int .i64 1)), none, []⟩,
  ⟨some 124, .bin .int .lss (.t 120) (.t 123), none, []⟩] [] false)
    (.cond (.t 124)
      (.skip)
      (.exit 2)))
    (.seq (.block 3 (.seq (.region [
  ⟨some 127, .mov (.t 3), none, []⟩,
  ⟨some 128, .mov (.t 6), none, []⟩,
  ⟨some 129, .ia 1 (.t 127) (.t 128), none, []⟩,
  ⟨some 130, .load none (.t 129), none, []⟩,
  ⟨some 131, .bin .int .neq (.t 130) (.c (.int .i64 1)), none, []⟩] [] false)
      (.cond (.t 131)
        (.seq (.region [
  ⟨some 2, .mov (.c (.int .i64 3)), none, []⟩] [] false)
        (.ret))
        (.skip))))
    (.region [
  ⟨some 125, .mov (.t 6), none, []⟩,
  ⟨some 126, .bin .int .add (.t 125) (.c (.int .i64 1)), none, []⟩,
  ⟨some 6, .mov (.t 126), none, []⟩] [] false)))))
  (.seq (.region [
  ⟨some 2, .mov (.c (.int .i64 0)), none, []⟩] [] false)
  (.ret)))))))
def tf240 : TFunc := { np := 1, nt := 132, res := [.tmp 2], own := false, body := tc240 }
noncomputable def S240_L1 (F97 : ByteArray → (Option Int)) (a0 : (List Node)) (x1 : (Int × (List Int))) : Option (LR (Int × (List Int)) Int) :=
  br (decide (x1.1 < ((List.length a0 : Nat) : Int)))
  (jn (σ := (List Int)) (α := (LR (Int × (List Int)) Int)) (bno (lookI a0 x1.1) fun y2 =>
  jn (σ := Bool) (α := (Sum (List Int) (LR (Int × (List Int)) Int))) (br (decide ((Node.op y2) < (1 : Int)))
  (inlO (some true))
  (inlO (some (decide ((6 : Int) < (Node.op y2)))))) fun x3 =>
  br x3
  (inrO (finO (some (1 : Int))))
  (br (decide ((Node.op y2) = (1 : Int)))
  (jn (σ := Bool) (α := (Sum (List Int) (LR (Int × (List Int)) Int))) (br (decide ((Node.n y2) < (0 : Int)))
  (inlO (some true))
  (inlO (some (decide ((1000000 : Int) < (Node.n y2)))))) fun x4 =>
  br x4
  (inrO (finO (some (1 : Int))))
  (jn (σ := Bool) (α := (Sum (List Int) (LR (Int × (List Int)) Int))) (br (decide (¬ (Node.name y2) = (⟨#[]⟩ : ByteArray)))
  (inlO (some true))
  (br (decide (¬ (Node.left y2) = (0 : Int)))
  (inlO (some true))
  (inlO (some (decide (¬ (Node.right y2) = (0 : Int))))))) fun x5 =>
  br x5
  (inrO (finO (some (3 : Int))))
  (inlO (some x1.2))))
  (br (decide ((Node.op y2) = (2 : Int)))
  (bno (F97 (Node.name y2)) fun y6 =>
  br (decide (¬ y6 = (0 : Int)))
  (inrO (finO (some (2 : Int))))
  (jn (σ := Bool) (α := (Sum (List Int) (LR (Int × (List Int)) Int))) (br (decide (¬ (Node.n y2) = (0 : Int)))
  (inlO (some true))
  (br (decide (¬ (Node.left y2) = (0 : Int)))
  (inlO (some true))
  (inlO (some (decide (¬ (Node.right y2) = (0 : Int))))))) fun x7 =>
  br x7
  (inrO (finO (some (3 : Int))))
  (inlO (some x1.2))))
  (jn (σ := Bool) (α := (Sum (List Int) (LR (Int × (List Int)) Int))) (br (decide ((Node.left y2) < (0 : Int)))
  (inlO (some true))
  (br (decide (x1.1 ≤ (Node.left y2)))
  (inlO (some true))
  (br (decide ((Node.right y2) < (0 : Int)))
  (inlO (some true))
  (inlO (some (decide (x1.1 ≤ (Node.right y2)))))))) fun x8 =>
  br x8
  (inrO (finO (some (1 : Int))))
  (jn (σ := Bool) (α := (Sum (List Int) (LR (Int × (List Int)) Int))) (br (decide (¬ (Node.n y2) = (0 : Int)))
  (inlO (some true))
  (inlO (some (decide (¬ (Node.name y2) = (⟨#[]⟩ : ByteArray)))))) fun x9 =>
  br x9
  (inrO (finO (some (3 : Int))))
  (ck (decide (0 ≤ Node.left y2 ∧ Node.left y2 < ((List.length x1.2 : Nat) : Int))) <|
  bno ((x1.2)[(Int.toNat (Node.left y2))]?) fun y10 =>
  ck (decide (0 ≤ Node.left y2 ∧ Node.left y2 < ((List.length x1.2 : Nat) : Int))) <|
  bno ((x1.2)[(Int.toNat (Node.left y2))]?) fun y11 =>
  ck (decide (0 ≤ Node.right y2 ∧ Node.right y2 < ((List.length (List.set x1.2 (Int.toNat (Node.left y2)) (wi (y10 + (1 : Int)))) : Nat) : Int))) <|
  bno ((List.set x1.2 (Int.toNat (Node.left y2)) (wi (y10 + (1 : Int))))[(Int.toNat (Node.right y2))]?) fun y12 =>
  ck (decide (0 ≤ Node.right y2 ∧ Node.right y2 < ((List.length (List.set x1.2 (Int.toNat (Node.left y2)) (wi (y10 + (1 : Int)))) : Nat) : Int))) <|
  bno ((List.set x1.2 (Int.toNat (Node.left y2)) (wi (y10 + (1 : Int))))[(Int.toNat (Node.right y2))]?) fun y13 =>
  inlO (some (List.set (List.set x1.2 (Int.toNat (Node.left y2)) (wi (y10 + (1 : Int)))) (Int.toNat (Node.right y2)) (wi (y12 + (1 : Int))))))))))) fun x14 =>
  nxO (some (wi (x1.1 + (1 : Int)), x14)))
  (dnO (some (x1.1, x1.2)))
noncomputable def S240_L2 (a0 : (List Node)) (x15 : (Int × (List Int))) (x16 : Int) : Option (LR Int Int) :=
  br (decide (x16 < (wi (((List.length a0 : Nat) : Int) - (1 : Int)))))
  (ck (decide (0 ≤ x16 ∧ x16 < ((List.length x15.2 : Nat) : Int))) <|
  bno ((x15.2)[(Int.toNat x16)]?) fun y17 =>
  br (decide (¬ y17 = (1 : Int)))
  (finO (some (3 : Int)))
  (nxO (some (wi (x16 + (1 : Int))))))
  (dnO (some x16))
noncomputable def S240 (F97 : ByteArray → (Option Int)) (a0 : (List Node)) : Option Int :=
  br (decide (((List.length a0 : Nat) : Int) = (0 : Int)))
  (some (5 : Int))
  (br (decide ((30 : Int) < ((List.length a0 : Nat) : Int)))
  (some (4 : Int))
  (ck (decide (0 ≤ ((List.length a0 : Nat) : Int) ∧ ((List.length a0 : Nat) : Int) ≤ ((List.length a0 : Nat) : Int) ∧ ((List.length a0 : Nat) : Int) ≤ roomA)) <|
  lp (S240_L1 F97 a0) ((0 : Int), List.replicate (Int.toNat ((List.length a0 : Nat) : Int)) (0 : Int)) fun x15 =>
  lp (S240_L2 a0 x15) (0 : Int) fun x18 =>
  some (0 : Int)))
theorem s240 (F97 : ByteArray → (Option Int)) (a0 : (List Node)) : tf240.run [⟨97, [.str], .int, fun x => F97 x, false, []⟩] [(.sl .node)] .int a0 = S240 F97 a0 := by kernel_rfl
noncomputable def P240 (a0 : (List Node)) : Option Int := S240 P97 a0
noncomputable def k240 : CSpec := ⟨240, [(.sl .node)], .int, fun x => P240 x, false, []⟩
theorem r240 {S : Seat} (h : Ok1 S 240 tf240) (h97 : Rt S k97) : Rt S k240 := fun x y hy =>
  Ok1.sound h (C := [k97]) (CSound.cons h97 CSound.nil) rfl rfl rfl ((s240 P97 x).trans hy) rfl

/- tallyhall/tallyref2.Refs -/
def tc243 : TCode :=
  .seq (.region [
  ⟨some 2, .mov (.c (.slice none 0 0)), none, []⟩] [] false)
  (.seq (.region [
  ⟨some 3, .mov (.c (.slice none 0 0)), none, []⟩] [] false)
  (.seq (.seq (.region [
  ⟨some 4, .mov (.c (.int .i64 0)), none, []⟩] [] false)
  (.loop ⟨[.slot 3 (.sl .str), .slot 4 .int], [5, 6, 7, 8, 9, 10, 11, 12, 13, 14, 15, 16, 17, 18, 19, 20, 21, 22, 23, 24, 25, 26, 27, 28, 29, 30, 31, 32, 33, 34, 35, 36, 37, 38, 39, 40, 41, 42, 43, 44, 45, 46, 47, 48, 49, 50, 51, 52, 53, 54, 55, 56, 57, 58, 59, 60, 61, 62, 63, 64, 65, 66, 67, 68, 69, 70], [57, 64], []⟩ 0 (.seq (.seq (.region [
  ⟨some 7, .mov (.t 4), none, []⟩,
  ⟨some 8, .mov (.t 0), none, []⟩,
  ⟨some 9, .len false (.t 8), none, []⟩,
  ⟨some 10, .bin .int .lss (.t 7) (.t 9), none, []⟩] [] false)
    (.cond (.t 10)
      (.skip)
      (.exit 0)))
    (.seq (.blockJ ⟨[.slot 3 (.sl .str)], [5, 6, 13, 14, 15, 16, 17, 18, 19, 20, 21, 22, 23, 24, 25, 26, 27, 28, 29, 30, 31, 32, 33, 34, 35, 36, 37, 38, 39, 40, 41, 42, 43, 44, 45, 46, 47, 48, 49, 50, 51, 52, 53, 54, 55, 56, 57, 58, 59, 60, 61, 62, 63, 64, 65, 66, 67, 68, 69, 70], [57, 64], [57]⟩ 1 (.seq (.seq (.region [
  ⟨some 13, .mov (.t 0), none, []⟩,
  ⟨some 14, .mov (.t 4), none, []⟩,
  ⟨some 15, .ia 5 (.t 13) (.t 14), none, []⟩,
  ⟨some 16, .fa 0 (.t 15), none, []⟩,
  ⟨some 17, .load none (.t 16), none, []⟩,
  ⟨some 18, .bin .int .neq (.t 17) (.c (.int .i64 2)), none, []⟩] [] false)
      (.cond (.t 18)
        (.exit 1)
        (.skip)))
      (.seq (.region [
  ⟨some 5, .mov (.c (.int .i64 0)), none, []⟩] [] false)
      (.seq (.loop ⟨[.slot 5 .int], [19, 20, 21, 22, 23, 24, 25, 26, 27, 28, 29, 30, 31, 32, 33, 34, 35, 36], [], []⟩ 2 (.seq (.seq (.regionJ ⟨[.slot 34 .bool], [19, 20, 21, 22, 23, 24, 25, 26, 27, 28, 29, 30, 31, 32, 33], [], []⟩ [
  ⟨some 19, .mov (.t 5), none, []⟩,
  ⟨some 20, .mov (.t 3), none, []⟩,
  ⟨some 21, .len false (.t 20), none, [1]⟩,
  ⟨some 22, .bin .int .lss (.t 19) (.t 21), none, [0, 2]⟩,
  ⟨some 23, .mov (.t 22), none, [3]⟩,
  ⟨some 24, .mov (.t 3), (some (23, true)), [4]⟩,
  ⟨some 25, .mov (.t 5), (some (23, true)), [4]⟩,
  ⟨some 26, .ia 1 (.t 24) (.t 25), (some (23, true)), [5, 6, 4]⟩,
  ⟨some 27, .load none (.t 26), (some (23, true)), [7, 4]⟩,
  ⟨some 28, .mov (.t 0), (some (23, true)), [4]⟩,
  ⟨some 29, .mov (.t 4), (some (23, true)), [4]⟩,
  ⟨some 30, .ia 5 (.t 28) (.t 29), (some (23, true)), [9, 10, 4]⟩,
  ⟨some 31, .fa 2 (.t 30), (some (23, true)), [11, 4]⟩,
  ⟨some 32, .load none (.t 31), (some (23, true)), [12, 4]⟩,
  ⟨some 33, .bin .str .lss (.t 27) (.t 32), (some (23, true)), [8, 13, 4]⟩,
  ⟨some 34, .pick (.t 23) (.t 33) (.c (.bool false)), none, [4, 14]⟩] [] true)
        (.cond (.t 34)
          (.skip)
          (.exit 2)))
        (.block 3 (.region [
  ⟨some 35, .mov (.t 5), none, []⟩,
  ⟨some 36, .bin .int .add (.t 35) (.c (.int .i64 1)), none, []⟩,
  ⟨some 5, .mov (.t 36), none, []⟩] [] false))))
      (.seq (.seq (.regionJ ⟨[.slot 52 .bool], [37, 38, 39, 40, 41, 42, 43, 44, 45, 46, 47, 48, 49, 50, 51], [], []⟩ [
  ⟨some 37, .mov (.t 5), none, []⟩,
  ⟨some 38, .mov (.t 3), none, []⟩,
  ⟨some 39, .len false (.t 38), none, [1]⟩,
  ⟨some 40, .bin .int .lss (.t 37) (.t 39), none, [0, 2]⟩,
  ⟨some 41, .mov (.t 40), none, [3]⟩,
  ⟨some 42, .mov (.t 3), (some (41, true)), [4]⟩,
  ⟨some 43, .mov (.t 5), (some (41, true)), [4]⟩,
  ⟨some 44, .ia 1 (.t 42) (.t 43), (some (41, true)), [5, 6, 4]⟩,
  ⟨some 45, .load none (.t 44), (some (41, true)), [7, 4]⟩,
  ⟨some 46, .mov (.t 0), (some (41, true)), [4]⟩,
  ⟨some 47, .mov (.t 4), (some (41, true)), [4]⟩,
  ⟨some 48, .ia 5 (.t 46) (.t 47), (some (41, true)), [9, 10, 4]⟩,
  ⟨some 49, .fa 2 (.t 48), (some (41, true)), [11, 4]⟩,
  ⟨some 50, .load none (.t 49), (some (41, true)), [12, 4]⟩,
  ⟨some 51, .bin .str .eql (.t 45) (.t 50), (some (41, true)), [8, 13, 4]⟩,
  ⟨some 52, .pick (.t 41) (.t 51) (.c (.bool false)), none, [4, 14]⟩] [] true)
      (.cond (.t 52)
        (.exit 1)
        (.skip)))
      (.seq (.region [
  ⟨some 6, .mov (.c (.slice none 0 0)), none, []⟩] [] false)
      (.seq (.region [
  ⟨some 53, .mov (.t 6), none, []⟩,
  ⟨some 54, .mov (.t 3), none, []⟩,
  ⟨some 55, .mov (.t 5), none, []⟩,
  ⟨some 56, .slc 1 (.t 54) none (some (.t 55)), none, []⟩,
  ⟨some 57, .app 1 (.t 53) (.t 56), none, []⟩,
  ⟨some 6, .mov (.t 57), none, []⟩] [.int, .int, .int, .int, .str] false)
      (.seq (.region [
  ⟨some 58, .mov (.t 6), none, []⟩,
  ⟨some 59, .mov (.t 0), none, []⟩,
  ⟨some 60, .mov (.t 4), none, []⟩,
  ⟨some 61, .ia 5 (.t 59) (.t 60), none, []⟩,
  ⟨some 62, .fa 2 (.t 61), none, []⟩,
  ⟨some 63, .load none (.t 62), none, []⟩,
  ⟨some 64, .bslice false 1 [.string ⟨#[]⟩] 1 [(0, (.t 63))], none, []⟩,
  ⟨some 65, .app 1 (.t 58) (.t 64), none, []⟩,
  ⟨some 6, .mov (.t 65), none, []⟩] [.int, .int, .int, .int, .int, .int, .str, .str] false)
      (.region [
  ⟨some 66, .mov (.t 6), none, []⟩,
  ⟨some 67, .mov (.t 3), none, []⟩,
  ⟨some 68, .mov (.t 5), none, []⟩,
  ⟨some 69, .slc 1 (.t 67) (some (.t 68)) none, none, []⟩,
  ⟨some 70, .app 1 (.t 66) (.t 69), none, []⟩,
  ⟨some 3, .mov (.t 70), none, []⟩] [.int, .int, .int, .int, .str] false)))))))))
    (.region [
  ⟨some 11, .mov (.t 4), none, []⟩,
  ⟨some 12, .bin .int .add (.t 11) (.c (.int .i64 1)), none, []⟩,
  ⟨some 4, .mov (.t 12), none, []⟩] [] false)))))
  (.seq (.region [
  ⟨some 71, .mov (.t 3), none, []⟩,
  ⟨some 2, .mov (.t 71), none, []⟩] [] false)
  (.ret))))
def tf243 : TFunc := { np := 1, nt := 72, res := [.tmp 2], own := false, body := tc243 }
noncomputable def S243_L1 (a0 : (List Node)) (x1 : ((List ByteArray) × Int)) (x3 : Int) : Option (LR Int (Sum (List ByteArray) (LR ((List ByteArray) × Int) (List ByteArray)))) :=
  jn (σ := Bool) (α := (LR Int (Sum (List ByteArray) (LR ((List ByteArray) × Int) (List ByteArray))))) (br (decide (x3 < ((List.length x1.1 : Nat) : Int)))
  (bno (lookI x1.1 x3) fun y4 =>
  bno (lookI a0 x1.2) fun y5 =>
  inlO (some (Op.bytesLess (ByteArray.toList y4) (ByteArray.toList (Node.name y5)))))
  (inlO (some false))) fun x6 =>
  br x6
  (nxO (some (wi (x3 + (1 : Int)))))
  (dnO (some x3))
noncomputable def S243_L2 (a0 : (List Node)) (x1 : ((List ByteArray) × Int)) : Option (LR ((List ByteArray) × Int) (List ByteArray)) :=
  br (decide (x1.2 < ((List.length a0 : Nat) : Int)))
  (jn (σ := (List ByteArray)) (α := (LR ((List ByteArray) × Int) (List ByteArray))) (bno (lookI a0 x1.2) fun y2 =>
  br (decide (¬ (Node.op y2) = (2 : Int)))
  (inlO (some x1.1))
  (lp (S243_L1 a0 x1) (0 : Int) fun x7 =>
  jn (σ := Bool) (α := (Sum (List ByteArray) (LR ((List ByteArray) × Int) (List ByteArray)))) (br (decide (x7 < ((List.length x1.1 : Nat) : Int)))
  (bno (lookI x1.1 x7) fun y8 =>
  bno (lookI a0 x1.2) fun y9 =>
  inlO (some (decide (y8 = (Node.name y9)))))
  (inlO (some false))) fun x10 =>
  br x10
  (inlO (some x1.1))
  (ck (decide (0 ≤ (0 : Int) ∧ (0 : Int) ≤ x7 ∧ x7 ≤ ((List.length x1.1 : Nat) : Int))) <|
  ck (decide (List.length (List.take (Int.toNat x7 - Int.toNat (0 : Int)) (List.drop (Int.toNat (0 : Int)) x1.1)) ≤ roomA)) <|
  bno (lookI a0 x1.2) fun y11 =>
  ck (decide (List.length (List.take (Int.toNat x7 - Int.toNat (0 : Int)) (List.drop (Int.toNat (0 : Int)) x1.1)) + List.length ([Node.name y11] : List ByteArray) ≤ roomA)) <|
  ck (decide (0 ≤ x7 ∧ x7 ≤ ((List.length x1.1 : Nat) : Int) ∧ ((List.length x1.1 : Nat) : Int) ≤ ((List.length x1.1 : Nat) : Int))) <|
  ck (decide (List.length ((List.take (Int.toNat x7 - Int.toNat (0 : Int)) (List.drop (Int.toNat (0 : Int)) x1.1)) ++ ([Node.name y11] : List ByteArray)) + List.length (List.take (Int.toNat ((List.length x1.1 : Nat) : Int) - Int.toNat x7) (List.drop (Int.toNat x7) x1.1)) ≤ roomA)) <|
  inlO (some (((List.take (Int.toNat x7 - Int.toNat (0 : Int)) (List.drop (Int.toNat (0 : Int)) x1.1)) ++ ([Node.name y11] : List ByteArray)) ++ (List.take (Int.toNat ((List.length x1.1 : Nat) : Int) - Int.toNat x7) (List.drop (Int.toNat x7) x1.1))))))) fun x12 =>
  nxO (some (x12, wi (x1.2 + (1 : Int)))))
  (dnO (some (x1.1, x1.2)))
noncomputable def S243 (a0 : (List Node)) : Option (List ByteArray) :=
  lp (S243_L2 a0) (([] : List ByteArray), (0 : Int)) fun x13 =>
  some x13.1
theorem s243 (a0 : (List Node)) : tf243.run [] [(.sl .node)] (.sl .str) a0 = S243 a0 := by kernel_rfl
noncomputable def P243 (a0 : (List Node)) : Option (List ByteArray) := S243 a0
noncomputable def k243 : CSpec := ⟨243, [(.sl .node)], (.sl .str), fun x => P243 x, false, []⟩
theorem r243 {S : Seat} (h : Ok1 S 243 tf243) : Rt S k243 := fun x y hy =>
  Ok1.sound h (C := []) CSound.nil rfl rfl rfl ((s243 x).trans hy) rfl

/- tallyhall/tallyref2.Named -/
/- tallyhall/tallyref2.Reckon -/
end Ab
