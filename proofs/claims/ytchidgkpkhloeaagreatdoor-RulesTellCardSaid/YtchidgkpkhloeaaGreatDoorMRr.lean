/-
  Functions of the program as typed code, what they come to, and their contracts: written by program (mk.py).
-/
import Derived.Test.YtchidgkpkhloeaaGreatDoorB2
import Derived.KernelRfl
import Derived.Test.YtchidgkpkhloeaaGreatDoorF2
import Derived.Test.YtchidgkpkhloeaaGreatDoorC3
namespace Ab
open Go
set_option linter.unusedVariables false
set_option maxRecDepth 100000
def tc347 : TCode :=
  .seq (.region [
 oq 4 (.mov (.c (.slice none 0 0)))] [] false)
  (.seq (.region [
 oq 5 (.mov (.c (.int .i64 0)))] [] false)
  (.seq (.loop ⟨[.slot 5 .int], [7, 8, 9, 10, 11, 12, 13, 14, 15, 16, 17, 18, 19, 20], [], []⟩ 0 (.seq (.seq (.regionJ ⟨[.slot 18 .bool], [7, 8, 9, 10, 11, 12, 13, 14, 15, 16, 17], [], []⟩ [
 oq 7 (.mov (.t 5)),
 oq 8 (.mov (.t 0)),
 oq 9 (.len false (.t 8)),
 oq 10 (.bin .int .lss (.t 7) (.t 9)),
 oq 11 (.mov (.t 10)),
  ⟨some 12, .mov (.t 0), (some (11, true)), []⟩,
  ⟨some 13, .mov (.t 5), (some (11, true)), []⟩,
  ⟨some 14, .ia 1 (.t 12) (.t 13), (some (11, true)), []⟩,
  ⟨some 15, .load none (.t 14), (some (11, true)), []⟩,
  ⟨some 16, .mov (.t 1), (some (11, true)), []⟩,
  ⟨some 17, .bin .int .lss (.t 15) (.t 16), (some (11, true)), []⟩,
 oq 18 (.pick (.t 11) (.t 17) (.c (.bool false)))] [] false)
    (.cond (.t 18)
      (.skip)
      (.exit 0)))
    (.block 1 (.region [
 oq 19 (.mov (.t 5)),
 oq 20 (.bin .int .add (.t 19) (.c (.int .i64 1))),
 oq 5 (.mov (.t 20))] [] false))))
  (.seq (.seq (.regionJ ⟨[.slot 32 .bool], [21, 22, 23, 24, 25, 26, 27, 28, 29, 30, 31], [], []⟩ [
 oq 21 (.mov (.t 5)),
 oq 22 (.mov (.t 0)),
 oq 23 (.len false (.t 22)),
 oq 24 (.bin .int .lss (.t 21) (.t 23)),
 oq 25 (.mov (.t 24)),
  ⟨some 26, .mov (.t 0), (some (25, true)), []⟩,
  ⟨some 27, .mov (.t 5), (some (25, true)), []⟩,
  ⟨some 28, .ia 1 (.t 26) (.t 27), (some (25, true)), []⟩,
  ⟨some 29, .load none (.t 28), (some (25, true)), []⟩,
  ⟨some 30, .mov (.t 1), (some (25, true)), []⟩,
  ⟨some 31, .bin .int .eql (.t 29) (.t 30), (some (25, true)), []⟩,
 oq 32 (.pick (.t 25) (.t 31) (.c (.bool false)))] [] false)
  (.cond (.t 32)
    (.seq (.region [
 oq 33 (.mov (.t 0)),
 oq 4 (.mov (.t 33))] [] false)
    (.ret))
    (.skip)))
  (.seq (.region [
 oq 6 (.mov (.c (.slice none 0 0)))] [] false)
  (.seq (.region [
 oq 34 (.mov (.t 6)),
 oq 35 (.mov (.t 0)),
 oq 36 (.mov (.t 5)),
 oq 37 (.slc 1 (.t 35) none (some (.t 36))),
 oq 38 (.app 1 (.t 34) (.t 37)),
 oq 6 (.mov (.t 38))] [] false)
  (.seq (.region [
 oq 39 (.mov (.t 6)),
 oq 40 (.mov (.t 1)),
 oq 41 (.bslice false 1 [.int .i64 0] 1 [(0, (.t 40))]),
 oq 42 (.app 1 (.t 39) (.t 41)),
 oq 6 (.mov (.t 42))] [] false)
  (.seq (.region [
 oq 43 (.mov (.t 6)),
 oq 44 (.mov (.t 0)),
 oq 45 (.mov (.t 5)),
 oq 46 (.slc 1 (.t 44) (some (.t 45)) none),
 oq 47 (.app 1 (.t 43) (.t 46)),
 oq 4 (.mov (.t 47))] [] false)
  (.ret))))))))
def tf347 : TFunc := { np := 2, nt := 48, res := [.tmp 4], own := false, body := tc347 }
noncomputable def S347_L1 (a0 : (List Int)) (a1 : Int) (x1 : Int) : Option (LR Int (List Int)) :=
  jn (σ := Bool) (α := (LR Int (List Int))) (br (decide (x1 < ((List.length a0 : Nat) : Int)))
  (bno (lookI a0 x1) fun y2 =>
  inlO (some (decide (y2 < a1))))
  (inlO (some false))) fun x3 =>
  br x3
  (nxO (some (wi (x1 + (1 : Int)))))
  (dnO (some x1))
noncomputable def S347 (a0 : (List Int)) (a1 : Int) : Option (List Int) :=
  lp (S347_L1 a0 a1) (0 : Int) fun x4 =>
  jn (σ := Bool) (α := (List Int)) (br (decide (x4 < ((List.length a0 : Nat) : Int)))
  (bno (lookI a0 x4) fun y5 =>
  inlO (some (decide (y5 = a1))))
  (inlO (some false))) fun x6 =>
  br x6
  (some a0)
  (ck (decide (0 ≤ (0 : Int) ∧ (0 : Int) ≤ x4 ∧ x4 ≤ ((List.length a0 : Nat) : Int))) <|
  ck (decide (List.length (List.take (Int.toNat x4 - Int.toNat (0 : Int)) (List.drop (Int.toNat (0 : Int)) a0)) ≤ roomA)) <|
  ck (decide (List.length (List.take (Int.toNat x4 - Int.toNat (0 : Int)) (List.drop (Int.toNat (0 : Int)) a0)) + List.length ([a1] : List Int) ≤ roomA)) <|
  ck (decide (0 ≤ x4 ∧ x4 ≤ ((List.length a0 : Nat) : Int) ∧ ((List.length a0 : Nat) : Int) ≤ ((List.length a0 : Nat) : Int))) <|
  ck (decide (List.length ((List.take (Int.toNat x4 - Int.toNat (0 : Int)) (List.drop (Int.toNat (0 : Int)) a0)) ++ ([a1] : List Int)) + List.length (List.take (Int.toNat ((List.length a0 : Nat) : Int) - Int.toNat x4) (List.drop (Int.toNat x4) a0)) ≤ roomA)) <|
  some (((List.take (Int.toNat x4 - Int.toNat (0 : Int)) (List.drop (Int.toNat (0 : Int)) a0)) ++ ([a1] : List Int)) ++ (List.take (Int.toNat ((List.length a0 : Nat) : Int) - Int.toNat x4) (List.drop (Int.toNat x4) a0))))
theorem s347 (a0 : (List Int)) (a1 : Int) : tf347.run [] [(.sl .int), .int] (.sl .int) (a0, a1) = S347 a0 a1 := by kernel_rfl
noncomputable def P347 (a0 : (List Int)) (a1 : Int) : Option (List Int) := S347 a0 a1
noncomputable def k347 : CSpec := ⟨347, [(.sl .int), .int], (.sl .int), fun x => P347 x.1 x.2, false, []⟩
theorem r347 {S : Seat} (h : Ok1 S 347 tf347) : Rt S k347 := fun x y hy =>
  Ok1.sound h (C := []) CSound.nil rfl rfl rfl ((s347 x.1 x.2).trans hy) rfl
def tc348 : TCode :=
  .seq (.region [
 oq 4 (.mov (.c (.bool false)))] [] false)
  (.seq (.seq (.region [
 oq 5 (.mov (.c (.int .i64 0)))] [] false)
  (.loop ⟨[.slot 5 .int], [6, 7, 8, 9, 10, 11, 12, 13, 14, 15, 16, 17], [], []⟩ 0 (.seq (.seq (.region [
 oq 6 (.mov (.t 5)),
 oq 7 (.mov (.t 0)),
 oq 8 (.len false (.t 7)),
 oq 9 (.bin .int .lss (.t 6) (.t 8))] [] false)
    (.cond (.t 9)
      (.skip)
      (.exit 0)))
    (.seq (.block 1 (.seq (.region [
 oq 12 (.mov (.t 0)),
 oq 13 (.mov (.t 5)),
 oq 14 (.ia 1 (.t 12) (.t 13)),
 oq 15 (.load none (.t 14)),
 oq 16 (.mov (.t 1)),
 oq 17 (.bin .int .eql (.t 15) (.t 16))] [] false)
      (.cond (.t 17)
        (.seq (.region [
 oq 4 (.mov (.c (.bool true)))] [] false)
        (.ret))
        (.skip))))
    (.region [
 oq 10 (.mov (.t 5)),
 oq 11 (.bin .int .add (.t 10) (.c (.int .i64 1))),
 oq 5 (.mov (.t 11))] [] false)))))
  (.seq (.region [
 oq 4 (.mov (.c (.bool false)))] [] false)
  (.ret)))
def tf348 : TFunc := { np := 2, nt := 18, res := [.tmp 4], own := false, body := tc348 }
noncomputable def S348_L1 (a0 : (List Int)) (a1 : Int) (x1 : Int) : Option (LR Int Bool) :=
  br (decide (x1 < ((List.length a0 : Nat) : Int)))
  (bno (lookI a0 x1) fun y2 =>
  br (decide (y2 = a1))
  (finO (some true))
  (nxO (some (wi (x1 + (1 : Int))))))
  (dnO (some x1))
noncomputable def S348 (a0 : (List Int)) (a1 : Int) : Option Bool :=
  lp (S348_L1 a0 a1) (0 : Int) fun x3 =>
  some false
theorem s348 (a0 : (List Int)) (a1 : Int) : tf348.run [] [(.sl .int), .int] .bool (a0, a1) = S348 a0 a1 := by kernel_rfl
noncomputable def P348 (a0 : (List Int)) (a1 : Int) : Option Bool := S348 a0 a1
noncomputable def k348 : CSpec := ⟨348, [(.sl .int), .int], .bool, fun x => P348 x.1 x.2, false, []⟩
theorem r348 {S : Seat} (h : Ok1 S 348 tf348) : Rt S k348 := fun x y hy =>
  Ok1.sound h (C := []) CSound.nil rfl rfl rfl ((s348 x.1 x.2).trans hy) rfl
def tc321 : TCode :=
  .seq (.region [
 oq 1 (.box (.t 0)),
 oq 2 (.mov (.c (.slice none 0 0))),
 oq 3 (.mov (.c (.int .i64 0))),
 oq 4 (.mov (.c (.int .i64 0)))] [] false)
  (.seq (.region [
 oq 25 (.load (some 3) (.t 1)),
 oq 26 (.call false [] 95 [(.t 25)]),
 oq 24 (.mov (.t 26)),
 oq 27 (.ext (.t 24) 0),
 oq 28 (.ext (.t 24) 1),
 oq 5 (.mov (.t 27)),
 oq 6 (.mov (.t 28))] [] false)
  (.seq (.seq (.region [
 oq 29 (.mov (.t 6)),
 oq 30 (.bin .int .neq (.t 29) (.c (.int .i64 0)))] [] false)
  (.cond (.t 30)
    (.seq (.region [
 oq 31 (.mov (.t 5)),
 oq 32 (.mov (.t 6)),
 oq 2 (.mov (.c (.slice none 0 0))),
 oq 3 (.mov (.t 31)),
 oq 4 (.mov (.t 32))] [] false)
    (.ret))
    (.skip)))
  (.seq (.region [
 oq 7 (.mov (.c (.slice none 0 0)))] [] false)
  (.seq (.seq (.region [
 oq 8 (.mov (.c (.int .i64 0)))] [] false)
  (.loop ⟨[.row 7 115 (.sl .int), .slot 8 .int], [9, 10, 11, 12, 13, 14, 15, 16, 33, 34, 35, 36, 37, 38, 39, 40, 41, 42, 43, 44, 45, 46, 47, 48, 49, 50, 51, 52, 53, 54, 55, 56, 57, 58, 59, 62, 63, 64, 65, 66, 67, 68, 69, 70, 71, 72, 73, 74, 75, 76, 77, 78, 79, 80, 81, 82, 84, 85, 86, 87, 88, 89, 90, 91, 92, 93, 94, 95, 96, 97, 98, 99, 100, 101, 102, 103, 104, 105, 106, 107, 108, 109, 110, 111, 112, 113, 114, 115], [114], []⟩ 0 (.seq (.seq (.region [
 oq 33 (.mov (.t 8)),
 oq 34 (.fa 2 (.t 1)),
 oq 35 (.load none (.t 34)),
 oq 36 (.len false (.t 35)),
 oq 37 (.bin .int .lss (.t 33) (.t 36))] [] false)
    (.cond (.t 37)
      (.skip)
      (.exit 0)))
    (.seq (.block 1 (.seq (.region [
 oq 9 (.mov (.c (.slice none 0 0)))] [] false)
      (.seq (.seq (.region [
 oq 40 (.fa 2 (.t 1)),
 oq 41 (.load none (.t 40)),
 oq 42 (.mov (.t 8)),
 oq 43 (.ia 4 (.t 41) (.t 42)),
 oq 44 (.fa 3 (.t 43)),
 oq 45 (.load none (.t 44)),
 oq 46 (.bin .str .neq (.t 45) (.c (.string ⟨#[]⟩)))] [] false)
      (.condJ ⟨[.slot 9 (.sl .int)], [10, 11, 12, 13, 14, 15, 16, 47, 48, 49, 50, 51, 52, 53, 54, 55, 56, 57, 58, 59, 62, 63, 64, 65, 66, 67, 68, 69, 70, 71, 72, 73, 74, 75, 76, 77, 78, 79, 80, 81, 82, 84, 85, 86, 87, 88, 89, 90, 91, 92, 93, 94, 95, 96, 97, 98, 99, 100, 101, 102, 103, 104, 105, 106, 107, 108, 109, 110, 111], [], []⟩ (.t 46)
        (.seq (.region [
 oq 48 (.fa 2 (.t 1)),
 oq 49 (.load none (.t 48)),
 oq 50 (.mov (.t 8)),
 oq 51 (.ia 4 (.t 49) (.t 50)),
 oq 52 (.fa 3 (.t 51)),
 oq 53 (.load none (.t 52)),
 oq 54 (.call true [] 247 [(.t 53)]),
 oq 47 (.mov (.t 54)),
 oq 55 (.ext (.t 47) 0),
 oq 56 (.ext (.t 47) 1),
 oq 57 (.ext (.t 47) 2),
 oq 10 (.mov (.t 55)),
 oq 11 (.mov (.t 56)),
 oq 12 (.mov (.t 57))] [] false)
        (.seq (.seq (.region [
 oq 58 (.mov (.t 12)),
 oq 59 (.bin .int .neq (.t 58) (.c (.int .i64 0)))] [] false)
        (.cond (.t 59)
          (.seq (.region [
 oq 60 (.mov (.t 8)),
 oq 61 (.mov (.t 12)),
 oq 2 (.mov (.c (.slice none 0 0))),
 oq 3 (.mov (.t 60)),
 oq 4 (.mov (.t 61))] [] false)
          (.ret))
          (.skip)))
        (.seq (.region [
 oq 13 (.mov (.c (.int .i64 0)))] [] false)
        (.loop ⟨[.slot 9 (.sl .int), .slot 13 .int], [14, 62, 63, 64, 65, 66, 67, 68, 69, 70, 71, 72, 73, 74, 75, 76, 77, 78, 79, 80, 81, 82, 84, 85, 86], [], []⟩ 2 (.seq (.seq (.region [
 oq 62 (.mov (.t 13)),
 oq 63 (.mov (.t 10)),
 oq 64 (.len false (.t 63)),
 oq 65 (.bin .int .lss (.t 62) (.t 64))] [] false)
          (.cond (.t 65)
            (.skip)
            (.exit 2)))
          (.seq (.blockJ ⟨[.slot 9 (.sl .int)], [14, 68, 69, 70, 71, 72, 73, 74, 75, 76, 77, 78, 79, 80, 81, 82, 84, 85, 86], [], []⟩ 3 (.seq (.seq (.region [
 oq 68 (.mov (.t 10)),
 oq 69 (.mov (.t 13)),
 oq 70 (.ia 5 (.t 68) (.t 69)),
 oq 71 (.fa 0 (.t 70)),
 oq 72 (.load none (.t 71)),
 oq 73 (.bin .int .neq (.t 72) (.c (.int .i64 2)))] [] false)
            (.cond (.t 73)
              (.exit 3)
              (.skip)))
            (.seq (.region [
 oq 74 (.load (some 3) (.t 1)),
 oq 75 (.mov (.t 10)),
 oq 76 (.mov (.t 13)),
  ⟨some 77, .ia 5 (.t 75) (.t 76), none, [1, 2]⟩,
  ⟨some 78, .fa 2 (.t 77), none, [3]⟩,
  ⟨some 79, .load none (.t 78), none, [4]⟩,
  ⟨some 80, .call false [] 96 [(.t 74), (.t 79)], none, [0, 5]⟩,
  ⟨some 14, .mov (.t 80), none, [6, 6, 0, 1, 2, 3, 4, 5, 6]⟩] [] true)
            (.seq (.seq (.region [
 oq 81 (.mov (.t 14)),
 oq 82 (.bin .int .lss (.t 81) (.c (.int .i64 0)))] [] false)
            (.cond (.t 82)
              (.seq (.region [
 oq 83 (.mov (.t 8)),
 oq 2 (.mov (.c (.slice none 0 0))),
 oq 3 (.mov (.t 83)),
 oq 4 (.mov (.c (.int .i64 5)))] [] false)
              (.ret))
              (.skip)))
            (.region [
 oq 84 (.mov (.t 9)),
 oq 85 (.mov (.t 14)),
 oq 86 (.call true [] 347 [(.t 84), (.t 85)]),
 oq 9 (.mov (.t 86))] [] false)))))
          (.region [
 oq 66 (.mov (.t 13)),
 oq 67 (.bin .int .add (.t 66) (.c (.int .i64 1))),
 oq 13 (.mov (.t 67))] [] false)))))))
        (.seq (.region [
 oq 87 (.load (some 3) (.t 1)),
 oq 88 (.mov (.t 8)),
 oq 89 (.call true [] 100 [(.t 87), (.t 88)]),
 oq 15 (.mov (.t 89))] [] false)
        (.seq (.region [
 oq 16 (.mov (.c (.int .i64 0)))] [] false)
        (.loop ⟨[.slot 9 (.sl .int), .slot 16 .int], [90, 91, 92, 93, 94, 95, 96, 97, 98, 99, 100, 101, 102, 103, 104, 105, 106, 107, 108, 109, 110, 111], [], []⟩ 4 (.seq (.seq (.region [
 oq 90 (.mov (.t 16)),
 oq 91 (.mov (.t 15)),
 oq 92 (.len false (.t 91)),
 oq 93 (.bin .int .lss (.t 90) (.t 92))] [] false)
          (.cond (.t 93)
            (.skip)
            (.exit 4)))
          (.seq (.block 5 (.seq (.region [
 oq 96 (.fa 2 (.t 1)),
  ⟨some 97, .load none (.t 96), none, [0]⟩,
 oq 98 (.mov (.t 15)),
 oq 99 (.mov (.t 16)),
  ⟨some 100, .ia 1 (.t 98) (.t 99), none, [2, 3]⟩,
  ⟨some 101, .load none (.t 100), none, [4]⟩,
  ⟨some 102, .ia 4 (.t 97) (.t 101), none, [1, 5]⟩,
  ⟨some 103, .fa 2 (.t 102), none, [6]⟩,
  ⟨some 104, .load none (.t 103), none, [7]⟩,
  ⟨some 105, .bin .int .neq (.t 104) (.c (.int .i64 0)), none, [8]⟩] [] true)
            (.condJ ⟨[.slot 9 (.sl .int)], [106, 107, 108, 109, 110, 111], [], []⟩ (.t 105)
              (.region [
 oq 106 (.mov (.t 9)),
 oq 107 (.mov (.t 15)),
 oq 108 (.mov (.t 16)),
 oq 109 (.ia 1 (.t 107) (.t 108)),
 oq 110 (.load none (.t 109)),
 oq 111 (.call true [] 347 [(.t 106), (.t 110)]),
 oq 9 (.mov (.t 111))] [] false)
              (.skip))))
          (.region [
 oq 94 (.mov (.t 16)),
 oq 95 (.bin .int .add (.t 94) (.c (.int .i64 1))),
 oq 16 (.mov (.t 95))] [] false))))))))
      (.region [
 oq 112 (.mov (.t 7)),
 oq 113 (.mov (.t 9)),
 oq 114 (.bslice true 1 [.slice none 0 0] 1 [(0, (.t 113))]),
 oq 115 (.app 1 (.t 112) (.t 114)),
 oq 7 (.mov (.t 115))] [.int, .int, (.sl .int), (.sl .int)] false))))
    (.region [
 oq 38 (.mov (.t 8)),
 oq 39 (.bin .int .add (.t 38) (.c (.int .i64 1))),
 oq 8 (.mov (.t 39))] [] false)))))
  (.seq (.seq (.region [
 oq 17 (.mov (.c (.int .i64 0)))] [] false)
  (.loop ⟨[.slot 17 .int], [18, 19, 20, 21, 22, 23, 116, 117, 118, 119, 120, 121, 122, 123, 124, 125, 126, 127, 128, 129, 130, 131, 132, 133, 134, 135, 136, 137, 138, 139, 140, 141, 142, 143, 144, 145, 146, 147, 148, 149, 150, 151, 152, 153, 154, 155, 156, 157, 158, 159, 160, 161, 162, 163, 164, 165, 166, 167, 168, 169, 170, 171, 172, 173, 174], [], []⟩ 6 (.seq (.seq (.region [
 oq 116 (.mov (.t 17)),
 oq 117 (.mov (.t 7)),
 oq 118 (.len false (.t 117)),
 oq 119 (.bin .int .lss (.t 116) (.t 118))] [] false)
    (.cond (.t 119)
      (.skip)
      (.exit 6)))
    (.seq (.block 7 (.seq (.region [
 oq 122 (.mov (.t 7)),
 oq 123 (.mov (.t 17)),
 oq 124 (.ia 1 (.t 122) (.t 123)),
 oq 125 (.load none (.t 124)),
 oq 18 (.mov (.t 125))] [] false)
      (.seq (.seq (.region [
 oq 19 (.mov (.c (.bool true)))] [] false)
      (.loop ⟨[.slot 18 (.sl .int), .slot 19 .bool], [20, 21, 22, 126, 127, 128, 129, 130, 131, 132, 133, 134, 135, 136, 137, 138, 139, 140, 141, 142, 143, 144, 145, 146, 147, 148, 149, 150, 151, 152, 153, 154, 155, 156, 157, 158, 159, 160, 161, 162, 163, 164, 165, 166, 167, 168, 169, 170], [], []⟩ 8 (.seq (.seq (.region [
 oq 126 (.mov (.t 19))] [] false)
        (.cond (.t 126)
          (.skip)
          (.exit 8)))
        (.block 9 (.seq (.region [
 oq 19 (.mov (.c (.bool false)))] [] false)
          (.seq (.region [
 oq 20 (.mov (.c (.int .i64 0)))] [] false)
          (.loop ⟨[.slot 18 (.sl .int), .slot 19 .bool, .slot 20 .int], [21, 22, 127, 128, 129, 130, 131, 132, 133, 134, 135, 136, 137, 138, 139, 140, 141, 142, 143, 144, 145, 146, 147, 148, 149, 150, 151, 152, 153, 154, 155, 156, 157, 158, 159, 160, 161, 162, 163, 164, 165, 166, 167, 168, 169, 170], [], []⟩ 10 (.seq (.seq (.region [
 oq 127 (.mov (.t 20)),
 oq 128 (.mov (.t 18)),
 oq 129 (.len false (.t 128)),
 oq 130 (.bin .int .lss (.t 127) (.t 129))] [] false)
            (.cond (.t 130)
              (.skip)
              (.exit 10)))
            (.seq (.block 11 (.seq (.region [
 oq 21 (.mov (.c (.int .i64 0)))] [] false)
              (.loop ⟨[.slot 18 (.sl .int), .slot 19 .bool, .slot 21 .int], [22, 133, 134, 135, 136, 137, 138, 139, 140, 141, 142, 143, 144, 145, 146, 147, 148, 149, 150, 151, 152, 153, 154, 155, 156, 157, 158, 159, 160, 161, 162, 163, 164, 165, 166, 167, 168, 169, 170], [], []⟩ 12 (.seq (.seq (.region [
 oq 133 (.mov (.t 21)),
 oq 134 (.mov (.t 7)),
 oq 135 (.mov (.t 18)),
 oq 136 (.mov (.t 20)),
 oq 137 (.ia 1 (.t 135) (.t 136)),
 oq 138 (.load none (.t 137)),
 oq 139 (.ia 1 (.t 134) (.t 138)),
 oq 140 (.load none (.t 139)),
 oq 141 (.len false (.t 140)),
 oq 142 (.bin .int .lss (.t 133) (.t 141))] [] false)
                (.cond (.t 142)
                  (.skip)
                  (.exit 12)))
                (.seq (.block 13 (.seq (.region [
 oq 145 (.mov (.t 18)),
 oq 146 (.mov (.t 7)),
 oq 147 (.mov (.t 18)),
 oq 148 (.mov (.t 20)),
 oq 149 (.ia 1 (.t 147) (.t 148)),
 oq 150 (.load none (.t 149)),
 oq 151 (.ia 1 (.t 146) (.t 150)),
 oq 152 (.load none (.t 151)),
 oq 153 (.mov (.t 21)),
 oq 154 (.ia 1 (.t 152) (.t 153)),
 oq 155 (.load none (.t 154)),
 oq 156 (.call false [] 348 [(.t 145), (.t 155)]),
 oq 22 (.mov (.t 156))] [] false)
                  (.seq (.region [
 oq 157 (.mov (.t 22)),
 oq 158 (.un .not (.t 157))] [] false)
                  (.cond (.t 158)
                    (.seq (.region [
 oq 159 (.mov (.t 18)),
 oq 160 (.mov (.t 7)),
 oq 161 (.mov (.t 18)),
 oq 162 (.mov (.t 20)),
 oq 163 (.ia 1 (.t 161) (.t 162)),
 oq 164 (.load none (.t 163)),
 oq 165 (.ia 1 (.t 160) (.t 164)),
 oq 166 (.load none (.t 165)),
 oq 167 (.mov (.t 21)),
 oq 168 (.ia 1 (.t 166) (.t 167)),
 oq 169 (.load none (.t 168)),
 oq 170 (.call true [] 347 [(.t 159), (.t 169)]),
 oq 18 (.mov (.t 170))] [] false)
                    (.seq (.region [
 oq 19 (.mov (.c (.bool true)))] [] false)
                    (.exit 12)))
                    (.skip)))))
                (.region [
 oq 143 (.mov (.t 21)),
 oq 144 (.bin .int .add (.t 143) (.c (.int .i64 1))),
 oq 21 (.mov (.t 144))] [] false))))))
            (.region [
 oq 131 (.mov (.t 20)),
 oq 132 (.bin .int .add (.t 131) (.c (.int .i64 1))),
 oq 20 (.mov (.t 132))] [] false))))))))))
      (.seq (.region [
 oq 171 (.mov (.t 18)),
 oq 172 (.mov (.t 17)),
 oq 173 (.call false [] 348 [(.t 171), (.t 172)]),
 oq 23 (.mov (.t 173))] [] false)
      (.seq (.region [
 oq 174 (.mov (.t 23))] [] false)
      (.cond (.t 174)
        (.seq (.region [
 oq 175 (.mov (.t 17)),
 oq 2 (.mov (.c (.slice none 0 0))),
 oq 3 (.mov (.t 175)),
 oq 4 (.mov (.c (.int .i64 8)))] [] false)
        (.ret))
        (.skip)))))))
    (.region [
 oq 120 (.mov (.t 17)),
 oq 121 (.bin .int .add (.t 120) (.c (.int .i64 1))),
 oq 17 (.mov (.t 121))] [] false)))))
  (.seq (.region [
 oq 176 (.mov (.t 7)),
 oq 2 (.mov (.t 176)),
 oq 3 (.mov (.c (.int .i64 (-1)))),
 oq 4 (.mov (.c (.int .i64 0)))] [] false)
  (.ret)))))))
def tf321 : TFunc := { np := 1, nt := 177, res := [.tmp 2, .tmp 3, .tmp 4], own := false, body := tc321 }
noncomputable def S321_L1 (F347 : (List Int) → Int → (Option (List Int))) (F96 : Dim → ByteArray → (Option Int)) (a0 : Dim) (x2 : ((List (List Int)) × Int)) (y5 : ((List Node) × Int × Int)) (x6 : ((List Int) × Int)) : Option (LR ((List Int) × Int) (Sum (List Int) (LR ((List (List Int)) × Int) ((List (List Int)) × Int × Int)))) :=
  br (decide (x6.2 < ((List.length y5.1 : Nat) : Int)))
  (jn (σ := (List Int)) (α := (LR ((List Int) × Int) (Sum (List Int) (LR ((List (List Int)) × Int) ((List (List Int)) × Int × Int))))) (bno (lookI y5.1 x6.2) fun y7 =>
  br (decide (¬ (Node.op y7) = (2 : Int)))
  (inlO (some x6.1))
  (bno (lookI y5.1 x6.2) fun y8 =>
  bno (F96 a0 (Node.name y8)) fun y9 =>
  br (decide (y9 < (0 : Int)))
  (inrO (finO (inrO (finO (some (([] : List (List Int)), x2.2, (5 : Int)))))))
  (bno (F347 x6.1 y9) fun y10 =>
  inlO (some y10)))) fun x11 =>
  nxO (some (x11, wi (x6.2 + (1 : Int)))))
  (dnO (some (x6.1, x6.2)))
noncomputable def S321_L2 (F347 : (List Int) → Int → (Option (List Int))) (a0 : Dim) (y13 : (List Int)) (x14 : ((List Int) × Int)) : Option (LR ((List Int) × Int) (Sum (List Int) (LR ((List (List Int)) × Int) ((List (List Int)) × Int × Int)))) :=
  br (decide (x14.2 < ((List.length y13 : Nat) : Int)))
  (bno (lookI y13 x14.2) fun y15 =>
  bno (lookI (Dim.members a0) y15) fun y16 =>
  jn (σ := (List Int)) (α := (LR ((List Int) × Int) (Sum (List Int) (LR ((List (List Int)) × Int) ((List (List Int)) × Int × Int))))) (br (decide (¬ (Member.sign y16) = (0 : Int)))
  (bno (lookI y13 x14.2) fun y17 =>
  bno (F347 x14.1 y17) fun y18 =>
  inlO (some y18))
  (inlO (some x14.1))) fun x19 =>
  nxO (some (x19, wi (x14.2 + (1 : Int)))))
  (dnO (some (x14.1, x14.2)))
noncomputable def S321_L3 (F100 : Dim → Int → (Option (List Int))) (F247 : ByteArray → (Option ((List Node) × Int × Int))) (F347 : (List Int) → Int → (Option (List Int))) (F96 : Dim → ByteArray → (Option Int)) (a0 : Dim) (x2 : ((List (List Int)) × Int)) : Option (LR ((List (List Int)) × Int) ((List (List Int)) × Int × Int)) :=
  br (decide (x2.2 < ((List.length (Dim.members a0) : Nat) : Int)))
  (bno (lookI (Dim.members a0) x2.2) fun y3 =>
  jn (σ := (List Int)) (α := (LR ((List (List Int)) × Int) ((List (List Int)) × Int × Int))) (br (decide (¬ (Member.formula y3) = (⟨#[]⟩ : ByteArray)))
  (bno (lookI (Dim.members a0) x2.2) fun y4 =>
  bno (F247 (Member.formula y4)) fun y5 =>
  br (decide (¬ y5.2.2 = (0 : Int)))
  (inrO (finO (some (([] : List (List Int)), x2.2, y5.2.2))))
  (lp (S321_L1 F347 F96 a0 x2 y5) (([] : List Int), (0 : Int)) fun x12 =>
  inlO (some x12.1)))
  (bno (F100 a0 x2.2) fun y13 =>
  lp (S321_L2 F347 a0 y13) (([] : List Int), (0 : Int)) fun x20 =>
  inlO (some x20.1))) fun x21 =>
  ck (decide (List.length x2.1 + List.length ([x21] : List (List Int)) ≤ roomA)) <|
  nxO (some (x2.1 ++ ([x21] : List (List Int)), wi (x2.2 + (1 : Int)))))
  (dnO (some (x2.1, x2.2)))
noncomputable def S321_L4 (F347 : (List Int) → Int → (Option (List Int))) (F348 : (List Int) → Int → (Option Bool)) (x22 : ((List (List Int)) × Int)) (x26 : ((List Int) × Bool × Int)) (x27 : ((List Int) × Bool × Int)) : Option (LR ((List Int) × Bool × Int) (LR ((List Int) × Bool × Int) (LR ((List Int) × Bool) (LR Int ((List (List Int)) × Int × Int))))) :=
  bno (lookI x27.1 x26.2.2) fun y28 =>
  ck (decide (0 ≤ y28 ∧ y28 < ((List.length x22.1 : Nat) : Int))) <|
  bno ((x22.1)[(Int.toNat y28)]?) fun y29 =>
  br (decide (x27.2.2 < ((List.length y29 : Nat) : Int)))
  (bno (lookI x27.1 x26.2.2) fun y30 =>
  ck (decide (0 ≤ y30 ∧ y30 < ((List.length x22.1 : Nat) : Int))) <|
  bno ((x22.1)[(Int.toNat y30)]?) fun y31 =>
  bno (lookI y31 x27.2.2) fun y32 =>
  bno (F348 x27.1 y32) fun y33 =>
  br (!y33)
  (bno (lookI x27.1 x26.2.2) fun y34 =>
  ck (decide (0 ≤ y34 ∧ y34 < ((List.length x22.1 : Nat) : Int))) <|
  bno ((x22.1)[(Int.toNat y34)]?) fun y35 =>
  bno (lookI y35 x27.2.2) fun y36 =>
  bno (F347 x27.1 y36) fun y37 =>
  dnO (some (y37, true, x27.2.2)))
  (nxO (some (x27.1, x27.2.1, wi (x27.2.2 + (1 : Int))))))
  (dnO (some (x27.1, x27.2.1, x27.2.2)))
noncomputable def S321_L5 (F347 : (List Int) → Int → (Option (List Int))) (F348 : (List Int) → Int → (Option Bool)) (x22 : ((List (List Int)) × Int)) (x26 : ((List Int) × Bool × Int)) : Option (LR ((List Int) × Bool × Int) (LR ((List Int) × Bool) (LR Int ((List (List Int)) × Int × Int)))) :=
  br (decide (x26.2.2 < ((List.length x26.1 : Nat) : Int)))
  (lp (S321_L4 F347 F348 x22 x26) (x26.1, x26.2.1, (0 : Int)) fun x38 =>
  nxO (some (x38.1, x38.2.1, wi (x26.2.2 + (1 : Int)))))
  (dnO (some (x26.1, x26.2.1, x26.2.2)))
noncomputable def S321_L6 (F347 : (List Int) → Int → (Option (List Int))) (F348 : (List Int) → Int → (Option Bool)) (x22 : ((List (List Int)) × Int)) (x25 : ((List Int) × Bool)) : Option (LR ((List Int) × Bool) (LR Int ((List (List Int)) × Int × Int))) :=
  br x25.2
  (lp (S321_L5 F347 F348 x22) (x25.1, false, (0 : Int)) fun x39 =>
  nxO (some (x39.1, x39.2.1)))
  (dnO (some (x25.1, x25.2)))
noncomputable def S321_L7 (F347 : (List Int) → Int → (Option (List Int))) (F348 : (List Int) → Int → (Option Bool)) (x22 : ((List (List Int)) × Int)) (x23 : Int) : Option (LR Int ((List (List Int)) × Int × Int)) :=
  br (decide (x23 < ((List.length x22.1 : Nat) : Int)))
  (ck (decide (0 ≤ x23 ∧ x23 < ((List.length x22.1 : Nat) : Int))) <|
  bno ((x22.1)[(Int.toNat x23)]?) fun y24 =>
  lp (S321_L6 F347 F348 x22) (y24, true) fun x40 =>
  bno (F348 x40.1 x23) fun y41 =>
  br y41
  (finO (some (([] : List (List Int)), x23, (8 : Int))))
  (nxO (some (wi (x23 + (1 : Int))))))
  (dnO (some x23))
noncomputable def S321 (F100 : Dim → Int → (Option (List Int))) (F247 : ByteArray → (Option ((List Node) × Int × Int))) (F347 : (List Int) → Int → (Option (List Int))) (F348 : (List Int) → Int → (Option Bool)) (F95 : Dim → (Option (Int × Int))) (F96 : Dim → ByteArray → (Option Int)) (a0 : Dim) : Option ((List (List Int)) × Int × Int) :=
  bno (F95 a0) fun y1 =>
  br (decide (¬ y1.2 = (0 : Int)))
  (some (([] : List (List Int)), y1.1, y1.2))
  (lp (S321_L3 F100 F247 F347 F96 a0) (([] : List (List Int)), (0 : Int)) fun x22 =>
  lp (S321_L7 F347 F348 x22) (0 : Int) fun x42 =>
  some (x22.1, (-1 : Int), (0 : Int)))
theorem s321 (F100 : Dim → Int → (Option (List Int))) (F247 : ByteArray → (Option ((List Node) × Int × Int))) (F347 : (List Int) → Int → (Option (List Int))) (F348 : (List Int) → Int → (Option Bool)) (F95 : Dim → (Option (Int × Int))) (F96 : Dim → ByteArray → (Option Int)) (a0 : Dim) : tf321.run [⟨100, [(.st .dim), .int], (.sl .int), fun x => F100 x.1 x.2, false, []⟩,
  ⟨247, [.str], (.tp [(.sl .node), .int, .int]), fun x => F247 x, false, []⟩,
  ⟨347, [(.sl .int), .int], (.sl .int), fun x => F347 x.1 x.2, false, []⟩,
  ⟨348, [(.sl .int), .int], .bool, fun x => F348 x.1 x.2, false, []⟩,
  ⟨95, [(.st .dim)], (.tp [.int, .int]), fun x => F95 x, false, []⟩,
  ⟨96, [(.st .dim), .str], .int, fun x => F96 x.1 x.2, false, []⟩] [(.st .dim)] (.tp [(.sl (.sl .int)), .int, .int]) a0 = S321 F100 F247 F347 F348 F95 F96 a0 := by kernel_rfl
noncomputable def P321 (a0 : Dim) : Option ((List (List Int)) × Int × Int) := S321 P100 P247 P347 P348 P95 P96 a0
noncomputable def k321 : CSpec := ⟨321, [(.st .dim)], (.tp [(.sl (.sl .int)), .int, .int]), fun x => P321 x, false, []⟩
theorem r321 {S : Seat} (h : Ok1 S 321 tf321) (h100 : Rt S k100) (h247 : Rt S k247) (h347 : Rt S k347) (h348 : Rt S k348) (h95 : Rt S k95) (h96 : Rt S k96) : Rt S k321 := fun x y hy =>
  Ok1.sound h (C := [k100, k247, k347, k348, k95, k96]) (CSound.cons h100 (CSound.cons h247 (CSound.cons h347 (CSound.cons h348 (CSound.cons h95 (CSound.cons h96 CSound.nil)))))) rfl rfl rfl ((s321 P100 P247 P347 P348 P95 P96 x).trans hy) rfl
def tc322 : TCode :=
  .seq (.region [
 oq 2 (.mov (.c (.slice none 0 0)))] [] false)
  (.seq (.region [
 oq 8 (.mov (.t 0)),
 oq 9 (.len false (.t 8)),
 oq 10 (.mksl 1 [.bool false] (.t 9) (.t 9)),
 oq 3 (.mov (.t 10))] [.int, .int, .bool] false)
  (.seq (.region [
 oq 4 (.mov (.c (.slice none 0 0)))] [] false)
  (.seq (.loop ⟨[.row 4 56 .int, .rowH 10 .bool], [5, 6, 7, 11, 12, 13, 14, 15, 16, 17, 18, 19, 20, 21, 22, 23, 24, 25, 26, 27, 28, 29, 30, 31, 32, 33, 34, 35, 36, 37, 38, 39, 40, 41, 42, 43, 44, 45, 46, 47, 48, 49, 50, 51, 52, 53, 54, 55, 56], [55], []⟩ 0 (.seq (.seq (.region [
 oq 11 (.mov (.t 4)),
 oq 12 (.len false (.t 11)),
 oq 13 (.mov (.t 0)),
 oq 14 (.len false (.t 13)),
 oq 15 (.bin .int .lss (.t 12) (.t 14))] [] false)
    (.cond (.t 15)
      (.skip)
      (.exit 0)))
    (.block 1 (.seq (.region [
 oq 5 (.mov (.c (.int .i64 0)))] [] false)
      (.loop ⟨[.row 4 56 .int, .slot 5 .int, .rowH 10 .bool], [6, 7, 16, 17, 18, 19, 20, 21, 22, 23, 24, 25, 26, 27, 28, 29, 30, 31, 32, 33, 34, 35, 36, 37, 38, 39, 40, 41, 42, 43, 44, 45, 46, 47, 48, 49, 50, 51, 52, 53, 54, 55, 56], [55], []⟩ 2 (.seq (.seq (.region [
 oq 16 (.mov (.t 5)),
 oq 17 (.mov (.t 0)),
 oq 18 (.len false (.t 17)),
 oq 19 (.bin .int .lss (.t 16) (.t 18))] [] false)
        (.cond (.t 19)
          (.skip)
          (.exit 2)))
        (.seq (.block 3 (.seq (.region [
 oq 22 (.mov (.t 3)),
 oq 23 (.mov (.t 5)),
 oq 24 (.ia 1 (.t 22) (.t 23)),
 oq 25 (.load none (.t 24)),
 oq 26 (.un .not (.t 25)),
 oq 6 (.mov (.t 26))] [] false)
          (.seq (.seq (.region [
 oq 7 (.mov (.c (.int .i64 0)))] [] false)
          (.loop ⟨[.slot 6 .bool, .slot 7 .int], [27, 28, 29, 30, 31, 32, 33, 34, 35, 36, 37, 38, 39, 40, 41, 42, 43, 44, 45, 46, 47, 48], [], []⟩ 4 (.seq (.seq (.regionJ ⟨[.slot 36 .bool], [27, 28, 29, 30, 31, 32, 33, 34, 35], [], []⟩ [
 oq 27 (.mov (.t 7)),
 oq 28 (.mov (.t 0)),
 oq 29 (.mov (.t 5)),
 oq 30 (.ia 1 (.t 28) (.t 29)),
 oq 31 (.load none (.t 30)),
 oq 32 (.len false (.t 31)),
 oq 33 (.bin .int .lss (.t 27) (.t 32)),
 oq 34 (.mov (.t 33)),
  ⟨some 35, .mov (.t 6), (some (34, true)), []⟩,
 oq 36 (.pick (.t 34) (.t 35) (.c (.bool false)))] [] false)
            (.cond (.t 36)
              (.skip)
              (.exit 4)))
            (.seq (.block 5 (.region [
 oq 39 (.mov (.t 3)),
 oq 40 (.mov (.t 0)),
 oq 41 (.mov (.t 5)),
 oq 42 (.ia 1 (.t 40) (.t 41)),
 oq 43 (.load none (.t 42)),
 oq 44 (.mov (.t 7)),
 oq 45 (.ia 1 (.t 43) (.t 44)),
 oq 46 (.load none (.t 45)),
 oq 47 (.ia 1 (.t 39) (.t 46)),
 oq 48 (.load none (.t 47)),
 oq 6 (.mov (.t 48))] [] false))
            (.region [
 oq 37 (.mov (.t 7)),
 oq 38 (.bin .int .add (.t 37) (.c (.int .i64 1))),
 oq 7 (.mov (.t 38))] [] false)))))
          (.seq (.region [
 oq 49 (.mov (.t 6))] [] false)
          (.cond (.t 49)
            (.seq (.region [
 oq 50 (.mov (.t 3)),
 oq 51 (.mov (.t 5)),
 oq 52 (.ia 1 (.t 50) (.t 51)),
  ⟨none, .store 1 (.t 52) (.c (.bool true)), none, []⟩] [] false)
            (.seq (.region [
 oq 53 (.mov (.t 4)),
 oq 54 (.mov (.t 5)),
 oq 55 (.bslice false 1 [.int .i64 0] 1 [(0, (.t 54))]),
 oq 56 (.app 1 (.t 53) (.t 55)),
 oq 4 (.mov (.t 56))] [] false)
            (.exit 2)))
            (.skip))))))
        (.region [
 oq 20 (.mov (.t 5)),
 oq 21 (.bin .int .add (.t 20) (.c (.int .i64 1))),
 oq 5 (.mov (.t 21))] [] false))))))))
  (.seq (.region [
 oq 57 (.mov (.t 4)),
 oq 2 (.mov (.t 57))] [] false)
  (.ret)))))
def tf322 : TFunc := { np := 1, nt := 58, res := [.tmp 2], own := false, body := tc322 }
noncomputable def S322_L1 (a0 : (List (List Int))) (x2 : ((List Int) × Int × (List Bool))) (x4 : (Bool × Int)) : Option (LR (Bool × Int) (LR ((List Int) × Int × (List Bool)) (LR ((List Int) × (List Bool)) (List Int)))) :=
  jn (σ := Bool) (α := (LR (Bool × Int) (LR ((List Int) × Int × (List Bool)) (LR ((List Int) × (List Bool)) (List Int))))) (bno (lookI a0 x2.2.1) fun y5 =>
  br (decide (x4.2 < ((List.length y5 : Nat) : Int)))
  (inlO (some x4.1))
  (inlO (some false))) fun x6 =>
  br x6
  (bno (lookI a0 x2.2.1) fun y7 =>
  bno (lookI y7 x4.2) fun y8 =>
  ck (decide (0 ≤ y8 ∧ y8 < ((List.length x2.2.2 : Nat) : Int))) <|
  bno ((x2.2.2)[(Int.toNat y8)]?) fun y9 =>
  nxO (some (y9, wi (x4.2 + (1 : Int)))))
  (dnO (some (x4.1, x4.2)))
noncomputable def S322_L2 (a0 : (List (List Int))) (x2 : ((List Int) × Int × (List Bool))) : Option (LR ((List Int) × Int × (List Bool)) (LR ((List Int) × (List Bool)) (List Int))) :=
  br (decide (x2.2.1 < ((List.length a0 : Nat) : Int)))
  (ck (decide (0 ≤ x2.2.1 ∧ x2.2.1 < ((List.length x2.2.2 : Nat) : Int))) <|
  bno ((x2.2.2)[(Int.toNat x2.2.1)]?) fun y3 =>
  lp (S322_L1 a0 x2) (!y3, (0 : Int)) fun x10 =>
  br x10.1
  (ck (decide (0 ≤ x2.2.1 ∧ x2.2.1 < ((List.length x2.2.2 : Nat) : Int))) <|
  bno ((x2.2.2)[(Int.toNat x2.2.1)]?) fun y11 =>
  ck (decide (List.length x2.1 + List.length ([x2.2.1] : List Int) ≤ roomA)) <|
  dnO (some (x2.1 ++ ([x2.2.1] : List Int), x2.2.1, List.set x2.2.2 (Int.toNat x2.2.1) true)))
  (nxO (some (x2.1, wi (x2.2.1 + (1 : Int)), x2.2.2))))
  (dnO (some (x2.1, x2.2.1, x2.2.2)))
noncomputable def S322_L3 (a0 : (List (List Int))) (x1 : ((List Int) × (List Bool))) : Option (LR ((List Int) × (List Bool)) (List Int)) :=
  br (decide (((List.length x1.1 : Nat) : Int) < ((List.length a0 : Nat) : Int)))
  (lp (S322_L2 a0) (x1.1, (0 : Int), x1.2) fun x12 =>
  nxO (some (x12.1, x12.2.2)))
  (dnO (some (x1.1, x1.2)))
noncomputable def S322 (a0 : (List (List Int))) : Option (List Int) :=
  ck (decide (0 ≤ ((List.length a0 : Nat) : Int) ∧ ((List.length a0 : Nat) : Int) ≤ ((List.length a0 : Nat) : Int) ∧ ((List.length a0 : Nat) : Int) ≤ roomA)) <|
  lp (S322_L3 a0) (([] : List Int), List.replicate (Int.toNat ((List.length a0 : Nat) : Int)) false) fun x13 =>
  some x13.1
theorem s322 (a0 : (List (List Int))) : tf322.run [] [(.sl (.sl .int))] (.sl .int) a0 = S322 a0 := by kernel_rfl
noncomputable def P322 (a0 : (List (List Int))) : Option (List Int) := S322 a0
noncomputable def k322 : CSpec := ⟨322, [(.sl (.sl .int))], (.sl .int), fun x => P322 x, false, []⟩
theorem r322 {S : Seat} (h : Ok1 S 322 tf322) : Rt S k322 := fun x y hy =>
  Ok1.sound h (C := []) CSound.nil rfl rfl rfl ((s322 x).trans hy) rfl
def tc319 : TCode :=
  .seq (.region [
 oq 1 (.box (.t 0)),
 oq 2 (.mov (.c (.int .i64 0))),
 oq 3 (.mov (.c (.int .i64 0))),
 oq 4 (.mov (.c (.int .i64 0)))] [] false)
  (.seq (.region [
 oq 13 (.load (some 1) (.t 1)),
 oq 14 (.call false [] 94 [(.t 13)]),
 oq 12 (.mov (.t 14)),
 oq 15 (.ext (.t 12) 0),
 oq 16 (.ext (.t 12) 1),
 oq 17 (.ext (.t 12) 2),
 oq 5 (.mov (.t 15)),
 oq 6 (.mov (.t 16)),
 oq 7 (.mov (.t 17))] [] false)
  (.seq (.seq (.region [
 oq 18 (.mov (.t 7)),
 oq 19 (.bin .int .neq (.t 18) (.c (.int .i64 0)))] [] false)
  (.cond (.t 19)
    (.seq (.region [
 oq 20 (.mov (.t 5)),
 oq 21 (.mov (.t 6)),
 oq 22 (.mov (.t 7)),
 oq 2 (.mov (.t 20)),
 oq 3 (.mov (.t 21)),
 oq 4 (.mov (.t 22))] [] false)
    (.ret))
    (.skip)))
  (.seq (.seq (.region [
 oq 8 (.mov (.c (.int .i64 0)))] [] false)
  (.loop ⟨[.slot 8 .int], [9, 10, 11, 23, 24, 25, 26, 27, 28, 29, 30, 31, 32, 33, 34, 35, 36, 37, 38, 39, 40, 41], [], []⟩ 0 (.seq (.seq (.region [
 oq 23 (.mov (.t 8)),
 oq 24 (.fa 0 (.t 1)),
 oq 25 (.load none (.t 24)),
 oq 26 (.len false (.t 25)),
 oq 27 (.bin .int .lss (.t 23) (.t 26))] [] false)
    (.cond (.t 27)
      (.skip)
      (.exit 0)))
    (.seq (.block 1 (.seq (.region [
 oq 31 (.fa 0 (.t 1)),
 oq 32 (.load none (.t 31)),
 oq 33 (.mov (.t 8)),
 oq 34 (.ia 3 (.t 32) (.t 33)),
 oq 35 (.load (some 3) (.t 34)),
 oq 36 (.call true [] 321 [(.t 35)]),
 oq 30 (.mov (.t 36)),
 oq 37 (.ext (.t 30) 0),
 oq 38 (.ext (.t 30) 1),
 oq 39 (.ext (.t 30) 2),
 oq 9 (.mov (.t 37)),
 oq 10 (.mov (.t 38)),
 oq 11 (.mov (.t 39))] [] false)
      (.seq (.region [
 oq 40 (.mov (.t 11)),
 oq 41 (.bin .int .neq (.t 40) (.c (.int .i64 0)))] [] false)
      (.cond (.t 41)
        (.seq (.region [
 oq 42 (.mov (.t 8)),
 oq 43 (.mov (.t 10)),
 oq 44 (.mov (.t 11)),
 oq 2 (.mov (.t 42)),
 oq 3 (.mov (.t 43)),
 oq 4 (.mov (.t 44))] [] false)
        (.ret))
        (.skip)))))
    (.region [
 oq 28 (.mov (.t 8)),
 oq 29 (.bin .int .add (.t 28) (.c (.int .i64 1))),
 oq 8 (.mov (.t 29))] [] false)))))
  (.seq (.region [
 oq 2 (.mov (.c (.int .i64 (-1)))),
 oq 3 (.mov (.c (.int .i64 (-1)))),
 oq 4 (.mov (.c (.int .i64 0)))] [] false)
  (.ret)))))
def tf319 : TFunc := { np := 1, nt := 45, res := [.tmp 2, .tmp 3, .tmp 4], own := false, body := tc319 }
noncomputable def S319_L1 (F321 : Dim → (Option ((List (List Int)) × Int × Int))) (a0 : (List Dim)) (x2 : Int) : Option (LR Int (Int × Int × Int)) :=
  br (decide (x2 < ((List.length a0 : Nat) : Int)))
  (bno (lookI a0 x2) fun y3 =>
  bno (F321 y3) fun y4 =>
  br (decide (¬ y4.2.2 = (0 : Int)))
  (finO (some (x2, y4.2.1, y4.2.2)))
  (nxO (some (wi (x2 + (1 : Int))))))
  (dnO (some x2))
noncomputable def S319 (F321 : Dim → (Option ((List (List Int)) × Int × Int))) (F94 : (List Dim) → (Option (Int × Int × Int))) (a0 : (List Dim)) : Option (Int × Int × Int) :=
  bno (F94 a0) fun y1 =>
  br (decide (¬ y1.2.2 = (0 : Int)))
  (some (y1.1, y1.2.1, y1.2.2))
  (lp (S319_L1 F321 a0) (0 : Int) fun x5 =>
  some ((-1 : Int), (-1 : Int), (0 : Int)))
theorem s319 (F321 : Dim → (Option ((List (List Int)) × Int × Int))) (F94 : (List Dim) → (Option (Int × Int × Int))) (a0 : (List Dim)) : tf319.run [⟨321, [(.st .dim)], (.tp [(.sl (.sl .int)), .int, .int]), fun x => F321 x, false, []⟩,
  ⟨94, [(.st .outl)], (.tp [.int, .int, .int]), fun x => F94 x, false, []⟩] [(.st .outl)] (.tp [.int, .int, .int]) a0 = S319 F321 F94 a0 := by kernel_rfl
noncomputable def P319 (a0 : (List Dim)) : Option (Int × Int × Int) := S319 P321 P94 a0
noncomputable def k319 : CSpec := ⟨319, [(.st .outl)], (.tp [.int, .int, .int]), fun x => P319 x, false, []⟩
theorem r319 {S : Seat} (h : Ok1 S 319 tf319) (h321 : Rt S k321) (h94 : Rt S k94) : Rt S k319 := fun x y hy =>
  Ok1.sound h (C := [k321, k94]) (CSound.cons h321 (CSound.cons h94 CSound.nil)) rfl rfl rfl ((s319 P321 P94 x).trans hy) rfl
end Ab
