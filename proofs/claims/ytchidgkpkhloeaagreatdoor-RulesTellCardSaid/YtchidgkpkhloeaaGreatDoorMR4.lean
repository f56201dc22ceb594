/-
  Functions of the program as typed code, what they come to, and their contracts: written by program (mk.py).
-/
import Derived.Test.YtchidgkpkhloeaaGreatDoorB2
import Derived.KernelRfl
import Derived.Test.YtchidgkpkhloeaaGreatDoorC3
import Derived.Test.YtchidgkpkhloeaaGreatDoorMRc
namespace Ab
open Go
set_option linter.unusedVariables false
set_option maxRecDepth 100000
def tc240 : TCode :=
  .seq (.region [
 oq 2 (.mov (.c (.int .i64 0)))] [] false)
  (.seq (.seq (.region [
 oq 7 (.mov (.t 0)),
 oq 8 (.len false (.t 7)),
 oq 9 (.bin .int .eql (.t 8) (.c (.int .i64 0)))] [] false)
  (.cond (.t 9)
    (.seq (.region [
 oq 2 (.mov (.c (.int .i64 5)))] [] false)
    (.ret))
    (.skip)))
  (.seq (.seq (.region [
 oq 10 (.mov (.t 0)),
 oq 11 (.len false (.t 10)),
 oq 12 (.bin .int .gtr (.t 11) (.c (.int .i64 30)))] [] false)
  (.cond (.t 12)
    (.seq (.region [
 oq 2 (.mov (.c (.int .i64 4)))] [] false)
    (.ret))
    (.skip)))
  (.seq (.region [
 oq 13 (.mov (.t 0)),
 oq 14 (.len false (.t 13)),
 oq 15 (.mksl 1 [.int .i64 0] (.t 14) (.t 14)),
 oq 3 (.mov (.t 15))] [] false)
  (.seq (.seq (.region [
 oq 4 (.mov (.c (.int .i64 0)))] [] false)
  (.loop ⟨[.slot 4 .int, .rowH 15 .int], [5, 16, 17, 18, 19, 20, 21, 22, 23, 24, 25, 26, 27, 28, 29, 30, 31, 32, 33, 34, 35, 36, 37, 38, 39, 40, 41, 42, 43, 44, 45, 46, 47, 48, 49, 50, 51, 52, 53, 54, 55, 56, 57, 58, 59, 60, 61, 62, 63, 64, 65, 66, 67, 68, 69, 70, 71, 72, 73, 74, 75, 76, 77, 78, 79, 80, 81, 82, 83, 84, 85, 86, 87, 88, 89, 90, 91, 92, 93, 94, 95, 96, 97, 98, 99, 100, 101, 102, 103, 104, 105, 106, 107, 108, 109, 110, 111, 112, 113, 114, 115, 116, 117, 118, 119], [5], []⟩ 0 (.seq (.seq (.region [
 oq 16 (.mov (.t 4)),
 oq 17 (.mov (.t 0)),
 oq 18 (.len false (.t 17)),
 oq 19 (.bin .int .lss (.t 16) (.t 18))] [] false)
    (.cond (.t 19)
      (.skip)
      (.exit 0)))
    (.seq (.blockJ ⟨[.rowH 15 .int], [5, 22, 23, 24, 25, 26, 27, 28, 29, 30, 31, 32, 33, 34, 35, 36, 37, 38, 39, 40, 41, 42, 43, 44, 45, 46, 47, 48, 49, 50, 51, 52, 53, 54, 55, 56, 57, 58, 59, 60, 61, 62, 63, 64, 65, 66, 67, 68, 69, 70, 71, 72, 73, 74, 75, 76, 77, 78, 79, 80, 81, 82, 83, 84, 85, 86, 87, 88, 89, 90, 91, 92, 93, 94, 95, 96, 97, 98, 99, 100, 101, 102, 103, 104, 105, 106, 107, 108, 109, 110, 111, 112, 113, 114, 115, 116, 117, 118, 119], [5], []⟩ 1 (.seq (.region [
 oq 22 (.mov (.t 0)),
 oq 23 (.mov (.t 4)),
 oq 24 (.ia 5 (.t 22) (.t 23)),
 oq 25 (.load (some 5) (.t 24)),
 oq 5 (.alloc [.int .i64 0, .int .i64 0, .string ⟨#[]⟩, .int .i64 0, .int .i64 0]),
  ⟨none, .store 5 (.t 5) (.t 25), none, []⟩] [] false)
      (.seq (.seq (.regionJ ⟨[.slot 33 .bool], [26, 27, 28, 29, 30, 31, 32], [], []⟩ [
 oq 26 (.fa 0 (.t 5)),
 oq 27 (.load none (.t 26)),
 oq 28 (.bin .int .lss (.t 27) (.c (.int .i64 1))),
 oq 29 (.mov (.t 28)),
  ⟨some 30, .fa 0 (.t 5), (some (29, false)), []⟩,
  ⟨some 31, .load none (.t 30), (some (29, false)), []⟩,
  ⟨some 32, .bin .int .gtr (.t 31) (.c (.int .i64 6)), (some (29, false)), []⟩,
 oq 33 (.pick (.t 29) (.c (.bool true)) (.t 32))] [] false)
      (.cond (.t 33)
        (.seq (.region [
 oq 2 (.mov (.c (.int .i64 1)))] [] false)
        (.ret))
        (.skip)))
      (.seq (.seq (.region [
 oq 34 (.fa 0 (.t 5)),
 oq 35 (.load none (.t 34)),
 oq 36 (.bin .int .eql (.t 35) (.c (.int .i64 1)))] [] false)
      (.cond (.t 36)
        (.seq (.seq (.regionJ ⟨[.slot 44 .bool], [37, 38, 39, 40, 41, 42, 43], [], []⟩ [
 oq 37 (.fa 1 (.t 5)),
 oq 38 (.load none (.t 37)),
 oq 39 (.bin .int .lss (.t 38) (.c (.int .i64 0))),
 oq 40 (.mov (.t 39)),
  ⟨some 41, .fa 1 (.t 5), (some (40, false)), []⟩,
  ⟨some 42, .load none (.t 41), (some (40, false)), []⟩,
  ⟨some 43, .bin .int .gtr (.t 42) (.c (.int .i64 1000000)), (some (40, false)), []⟩,
 oq 44 (.pick (.t 40) (.c (.bool true)) (.t 43))] [] false)
        (.cond (.t 44)
          (.seq (.region [
 oq 2 (.mov (.c (.int .i64 1)))] [] false)
          (.ret))
          (.skip)))
        (.seq (.seq (.regionJ ⟨[.slot 57 .bool], [45, 46, 47, 48, 49, 50, 51, 52, 53, 54, 55, 56], [], []⟩ [
 oq 45 (.fa 2 (.t 5)),
 oq 46 (.load none (.t 45)),
 oq 47 (.bin .str .neq (.t 46) (.c (.string ⟨#[]⟩))),
 oq 48 (.mov (.t 47)),
  ⟨some 49, .fa 3 (.t 5), (some (48, false)), []⟩,
  ⟨some 50, .load none (.t 49), (some (48, false)), []⟩,
  ⟨some 51, .bin .int .neq (.t 50) (.c (.int .i64 0)), (some (48, false)), []⟩,
 oq 52 (.pick (.t 48) (.c (.bool true)) (.t 51)),
 oq 53 (.mov (.t 52)),
  ⟨some 54, .fa 4 (.t 5), (some (53, false)), []⟩,
  ⟨some 55, .load none (.t 54), (some (53, false)), []⟩,
  ⟨some 56, .bin .int .neq (.t 55) (.c (.int .i64 0)), (some (53, false)), []⟩,
 oq 57 (.pick (.t 53) (.c (.bool true)) (.t 56))] [] false)
        (.cond (.t 57)
          (.seq (.region [
 oq 2 (.mov (.c (.int .i64 3)))] [] false)
          (.ret))
          (.skip)))
        (.exit 1)))
        (.skip)))
      (.seq (.seq (.region [
 oq 58 (.fa 0 (.t 5)),
 oq 59 (.load none (.t 58)),
 oq 60 (.bin .int .eql (.t 59) (.c (.int .i64 2)))] [] false)
      (.cond (.t 60)
        (.seq (.seq (.region [
 oq 61 (.fa 2 (.t 5)),
 oq 62 (.load none (.t 61)),
 oq 63 (.call false [] 97 [(.t 62)]),
 oq 64 (.bin .int .neq (.t 63) (.c (.int .i64 0)))] [] false)
        (.cond (.t 64)
          (.seq (.region [
 oq 2 (.mov (.c (.int .i64 2)))] [] false)
          (.ret))
          (.skip)))
        (.seq (.seq (.regionJ ⟨[.slot 77 .bool], [65, 66, 67, 68, 69, 70, 71, 72, 73, 74, 75, 76], [], []⟩ [
 oq 65 (.fa 1 (.t 5)),
 oq 66 (.load none (.t 65)),
 oq 67 (.bin .int .neq (.t 66) (.c (.int .i64 0))),
 oq 68 (.mov (.t 67)),
  ⟨some 69, .fa 3 (.t 5), (some (68, false)), []⟩,
  ⟨some 70, .load none (.t 69), (some (68, false)), []⟩,
  ⟨some 71, .bin .int .neq (.t 70) (.c (.int .i64 0)), (some (68, false)), []⟩,
 oq 72 (.pick (.t 68) (.c (.bool true)) (.t 71)),
 oq 73 (.mov (.t 72)),
  ⟨some 74, .fa 4 (.t 5), (some (73, false)), []⟩,
  ⟨some 75, .load none (.t 74), (some (73, false)), []⟩,
  ⟨some 76, .bin .int .neq (.t 75) (.c (.int .i64 0)), (some (73, false)), []⟩,
 oq 77 (.pick (.t 73) (.c (.bool true)) (.t 76))] [] false)
        (.cond (.t 77)
          (.seq (.region [
 oq 2 (.mov (.c (.int .i64 3)))] [] false)
          (.ret))
          (.skip)))
        (.exit 1)))
        (.skip)))
      (.seq (.seq (.regionJ ⟨[.slot 97 .bool], [78, 79, 80, 81, 82, 83, 84, 85, 86, 87, 88, 89, 90, 91, 92, 93, 94, 95, 96], [], []⟩ [
 oq 78 (.fa 3 (.t 5)),
 oq 79 (.load none (.t 78)),
 oq 80 (.bin .int .lss (.t 79) (.c (.int .i64 0))),
 oq 81 (.mov (.t 80)),
  ⟨some 82, .fa 3 (.t 5), (some (81, false)), []⟩,
  ⟨some 83, .load none (.t 82), (some (81, false)), []⟩,
  ⟨some 84, .mov (.t 4), (some (81, false)), []⟩,
  ⟨some 85, .bin .int .geq (.t 83) (.t 84), (some (81, false)), []⟩,
 oq 86 (.pick (.t 81) (.c (.bool true)) (.t 85)),
 oq 87 (.mov (.t 86)),
  ⟨some 88, .fa 4 (.t 5), (some (87, false)), []⟩,
  ⟨some 89, .load none (.t 88), (some (87, false)), []⟩,
  ⟨some 90, .bin .int .lss (.t 89) (.c (.int .i64 0)), (some (87, false)), []⟩,
 oq 91 (.pick (.t 87) (.c (.bool true)) (.t 90)),
 oq 92 (.mov (.t 91)),
  ⟨some 93, .fa 4 (.t 5), (some (92, false)), []⟩,
  ⟨some 94, .load none (.t 93), (some (92, false)), []⟩,
  ⟨some 95, .mov (.t 4), (some (92, false)), []⟩,
  ⟨some 96, .bin .int .geq (.t 94) (.t 95), (some (92, false)), []⟩,
 oq 97 (.pick (.t 92) (.c (.bool true)) (.t 96))] [] false)
      (.cond (.t 97)
        (.seq (.region [
 oq 2 (.mov (.c (.int .i64 1)))] [] false)
        (.ret))
        (.skip)))
      (.seq (.seq (.regionJ ⟨[.slot 105 .bool], [98, 99, 100, 101, 102, 103, 104], [], []⟩ [
 oq 98 (.fa 1 (.t 5)),
 oq 99 (.load none (.t 98)),
 oq 100 (.bin .int .neq (.t 99) (.c (.int .i64 0))),
 oq 101 (.mov (.t 100)),
  ⟨some 102, .fa 2 (.t 5), (some (101, false)), []⟩,
  ⟨some 103, .load none (.t 102), (some (101, false)), []⟩,
  ⟨some 104, .bin .str .neq (.t 103) (.c (.string ⟨#[]⟩)), (some (101, false)), []⟩,
 oq 105 (.pick (.t 101) (.c (.bool true)) (.t 104))] [] false)
      (.cond (.t 105)
        (.seq (.region [
 oq 2 (.mov (.c (.int .i64 3)))] [] false)
        (.ret))
        (.skip)))
      (.seq (.region [
 oq 106 (.mov (.t 3)),
 oq 107 (.fa 3 (.t 5)),
 oq 108 (.load none (.t 107)),
 oq 109 (.ia 1 (.t 106) (.t 108)),
 oq 110 (.load none (.t 109)),
 oq 111 (.bin .int .add (.t 110) (.c (.int .i64 1))),
 oq 112 (.ia 1 (.t 106) (.t 108)),
  ⟨none, .store 1 (.t 112) (.t 111), none, []⟩] [] false)
      (.region [
 oq 113 (.mov (.t 3)),
 oq 114 (.fa 4 (.t 5)),
 oq 115 (.load none (.t 114)),
 oq 116 (.ia 1 (.t 113) (.t 115)),
 oq 117 (.load none (.t 116)),
 oq 118 (.bin .int .add (.t 117) (.c (.int .i64 1))),
 oq 119 (.ia 1 (.t 113) (.t 115)),
  ⟨none, .store 1 (.t 119) (.t 118), none, []⟩] [] false)))))))))
    (.region [
 oq 20 (.mov (.t 4)),
 oq 21 (.bin .int .add (.t 20) (.c (.int .i64 1))),
 oq 4 (.mov (.t 21))] [] false)))))
  (.seq (.seq (.region [
 oq 6 (.mov (.c (.int .i64 0)))] [] false)
  (.loop ⟨[.slot 6 .int], [120, 121, 122, 123, 124, 125, 126, 127, 128, 129, 130, 131], [], []⟩ 2 (.seq (.seq (.region [
 oq 120 (.mov (.t 6)),
 oq 121 (.mov (.t 0)),
 oq 122 (.len false (.t 121)),
 oq 123 (.bin .int .sub (.t 122) (.c (.int .i64 1))),
 oq 124 (.bin .int .lss (.t 120) (.t 123))] [] false)
    (.cond (.t 124)
      (.skip)
      (.exit 2)))
    (.seq (.block 3 (.seq (.region [
 oq 127 (.mov (.t 3)),
 oq 128 (.mov (.t 6)),
 oq 129 (.ia 1 (.t 127) (.t 128)),
 oq 130 (.load none (.t 129)),
 oq 131 (.bin .int .neq (.t 130) (.c (.int .i64 1)))] [] false)
      (.cond (.t 131)
        (.seq (.region [
 oq 2 (.mov (.c (.int .i64 3)))] [] false)
        (.ret))
        (.skip))))
    (.region [
 oq 125 (.mov (.t 6)),
 oq 126 (.bin .int .add (.t 125) (.c (.int .i64 1))),
 oq 6 (.mov (.t 126))] [] false)))))
  (.seq (.region [
 oq 2 (.mov (.c (.int .i64 0)))] [] false)
  (.ret)))))))
def tf240 : TFunc := { np := 1, nt := 132, res := [.tmp 2], own := false, body := tc240 }
noncomputable def S240_L1 (F97 : ByteArray → (Option Int)) (a0 : (List Node)) (x1 : (Int × (List Int))) : Option (LR (Int × (List Int)) Int) :=
  br (decide (x1.1 < ((List.length a0 : Nat) : Int)))
  (jn (σ := (List Int)) (α := (LR (Int × (List Int)) Int)) (bno (lookI a0 x1.1) fun y2 =>
  jn (σ := Bool) (α := (Sum (List Int) (LR (Int × (List Int)) Int))) (br (decide ((Node.op y2) < (1 : Int)))
  (inlO (some true))
  (inlO (some (decide ((6 : Int) < (Node.op y2)))))) fun x3 =>
  br x3
  (inrO (finO (some (1 : Int))))
  (br (decide ((Node.op y2) = (1 : Int)))
  (jn (σ := Bool) (α := (Sum (List Int) (LR (Int × (List Int)) Int))) (br (decide ((Node.n y2) < (0 : Int)))
  (inlO (some true))
  (inlO (some (decide ((1000000 : Int) < (Node.n y2)))))) fun x4 =>
  br x4
  (inrO (finO (some (1 : Int))))
  (jn (σ := Bool) (α := (Sum (List Int) (LR (Int × (List Int)) Int))) (br (decide (¬ (Node.name y2) = (⟨#[]⟩ : ByteArray)))
  (inlO (some true))
  (br (decide (¬ (Node.left y2) = (0 : Int)))
  (inlO (some true))
  (inlO (some (decide (¬ (Node.right y2) = (0 : Int))))))) fun x5 =>
  br x5
  (inrO (finO (some (3 : Int))))
  (inlO (some x1.2))))
  (br (decide ((Node.op y2) = (2 : Int)))
  (bno (F97 (Node.name y2)) fun y6 =>
  br (decide (¬ y6 = (0 : Int)))
  (inrO (finO (some (2 : Int))))
  (jn (σ := Bool) (α := (Sum (List Int) (LR (Int × (List Int)) Int))) (br (decide (¬ (Node.n y2) = (0 : Int)))
  (inlO (some true))
  (br (decide (¬ (Node.left y2) = (0 : Int)))
  (inlO (some true))
  (inlO (some (decide (¬ (Node.right y2) = (0 : Int))))))) fun x7 =>
  br x7
  (inrO (finO (some (3 : Int))))
  (inlO (some x1.2))))
  (jn (σ := Bool) (α := (Sum (List Int) (LR (Int × (List Int)) Int))) (br (decide ((Node.left y2) < (0 : Int)))
  (inlO (some true))
  (br (decide (x1.1 ≤ (Node.left y2)))
  (inlO (some true))
  (br (decide ((Node.right y2) < (0 : Int)))
  (inlO (some true))
  (inlO (some (decide (x1.1 ≤ (Node.right y2)))))))) fun x8 =>
  br x8
  (inrO (finO (some (1 : Int))))
  (jn (σ := Bool) (α := (Sum (List Int) (LR (Int × (List Int)) Int))) (br (decide (¬ (Node.n y2) = (0 : Int)))
  (inlO (some true))
  (inlO (some (decide (¬ (Node.name y2) = (⟨#[]⟩ : ByteArray)))))) fun x9 =>
  br x9
  (inrO (finO (some (3 : Int))))
  (ck (decide (0 ≤ Node.left y2 ∧ Node.left y2 < ((List.length x1.2 : Nat) : Int))) <|
  bno ((x1.2)[(Int.toNat (Node.left y2))]?) fun y10 =>
  ck (decide (0 ≤ Node.left y2 ∧ Node.left y2 < ((List.length x1.2 : Nat) : Int))) <|
  bno ((x1.2)[(Int.toNat (Node.left y2))]?) fun y11 =>
  ck (decide (0 ≤ Node.right y2 ∧ Node.right y2 < ((List.length (List.set x1.2 (Int.toNat (Node.left y2)) (wi (y10 + (1 : Int)))) : Nat) : Int))) <|
  bno ((List.set x1.2 (Int.toNat (Node.left y2)) (wi (y10 + (1 : Int))))[(Int.toNat (Node.right y2))]?) fun y12 =>
  ck (decide (0 ≤ Node.right y2 ∧ Node.right y2 < ((List.length (List.set x1.2 (Int.toNat (Node.left y2)) (wi (y10 + (1 : Int)))) : Nat) : Int))) <|
  bno ((List.set x1.2 (Int.toNat (Node.left y2)) (wi (y10 + (1 : Int))))[(Int.toNat (Node.right y2))]?) fun y13 =>
  inlO (some (List.set (List.set x1.2 (Int.toNat (Node.left y2)) (wi (y10 + (1 : Int)))) (Int.toNat (Node.right y2)) (wi (y12 + (1 : Int))))))))))) fun x14 =>
  nxO (some (wi (x1.1 + (1 : Int)), x14)))
  (dnO (some (x1.1, x1.2)))
noncomputable def S240_L2 (a0 : (List Node)) (x15 : (Int × (List Int))) (x16 : Int) : Option (LR Int Int) :=
  br (decide (x16 < (wi (((List.length a0 : Nat) : Int) - (1 : Int)))))
  (ck (decide (0 ≤ x16 ∧ x16 < ((List.length x15.2 : Nat) : Int))) <|
  bno ((x15.2)[(Int.toNat x16)]?) fun y17 =>
  br (decide (¬ y17 = (1 : Int)))
  (finO (some (3 : Int)))
  (nxO (some (wi (x16 + (1 : Int))))))
  (dnO (some x16))
noncomputable def S240 (F97 : ByteArray → (Option Int)) (a0 : (List Node)) : Option Int :=
  br (decide (((List.length a0 : Nat) : Int) = (0 : Int)))
  (some (5 : Int))
  (br (decide ((30 : Int) < ((List.length a0 : Nat) : Int)))
  (some (4 : Int))
  (ck (decide (0 ≤ ((List.length a0 : Nat) : Int) ∧ ((List.length a0 : Nat) : Int) ≤ ((List.length a0 : Nat) : Int) ∧ ((List.length a0 : Nat) : Int) ≤ roomA)) <|
  lp (S240_L1 F97 a0) ((0 : Int), List.replicate (Int.toNat ((List.length a0 : Nat) : Int)) (0 : Int)) fun x15 =>
  lp (S240_L2 a0 x15) (0 : Int) fun x18 =>
  some (0 : Int)))
theorem s240 (F97 : ByteArray → (Option Int)) (a0 : (List Node)) : tf240.run [⟨97, [.str], .int, fun x => F97 x, false, []⟩] [(.sl .node)] .int a0 = S240 F97 a0 := by kernel_rfl
noncomputable def P240 (a0 : (List Node)) : Option Int := S240 P97 a0
noncomputable def k240 : CSpec := ⟨240, [(.sl .node)], .int, fun x => P240 x, false, []⟩
theorem r240 {S : Seat} (h : Ok1 S 240 tf240) (h97 : Rt S k97) : Rt S k240 := fun x y hy =>
  Ok1.sound h (C := [k97]) (CSound.cons h97 CSound.nil) rfl rfl rfl ((s240 P97 x).trans hy) rfl
end Ab
