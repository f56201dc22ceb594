import Derived.Test.YtchidgkpkhloeaaGreatDoorB2
import Derived.KernelRfl
import Derived.Test.YtchidgkpkhloeaaGreatDoorC1
section
namespace Ab
open Go
set_option linter.unusedVariables false
set_option maxRecDepth 100000
def tc106 : TCode :=
  .seq (.region [
 oq 1 (.box (.t 0)),
 oq 2 (.mov (.c (.int .i64 0)))] [] false)
  (.seq (.region [
 oq 3 (.mov (.c (.int .i64 1)))] [] false)
  (.seq (.seq (.region [
 oq 4 (.mov (.c (.int .i64 0)))] [] false)
  (.loop ⟨[.slot 3 .int, .slot 4 .int], [5, 6, 7, 8, 9, 10, 11, 12, 13, 14, 15, 16, 17, 18, 19, 20], [], []⟩ 0 (.seq (.seq (.region [
 oq 5 (.mov (.t 4)),
 oq 6 (.fa 0 (.t 1)),
 oq 7 (.load none (.t 6)),
 oq 8 (.len false (.t 7)),
 oq 9 (.bin .int .lss (.t 5) (.t 8))] [] false)
    (.cond (.t 9)
      (.skip)
      (.exit 0)))
    (.seq (.block 1 (.region [
 oq 12 (.mov (.t 3)),
 oq 13 (.fa 0 (.t 1)),
 oq 14 (.load none (.t 13)),
 oq 15 (.mov (.t 4)),
 oq 16 (.ia 3 (.t 14) (.t 15)),
 oq 17 (.fa 2 (.t 16)),
 oq 18 (.load none (.t 17)),
 oq 19 (.len false (.t 18)),
 oq 20 (.bin .int .mul (.t 12) (.t 19)),
 oq 3 (.mov (.t 20))] [] false))
    (.region [
 oq 10 (.mov (.t 4)),
 oq 11 (.bin .int .add (.t 10) (.c (.int .i64 1))),
 oq 4 (.mov (.t 11))] [] false)))))
  (.seq (.region [
 oq 21 (.mov (.t 3)),
 oq 2 (.mov (.t 21))] [] false)
  (.ret))))
def tf106 : TFunc := { np := 1, nt := 22, res := [.tmp 2], own := false, body := tc106 }
noncomputable def S106_L1 (a0 : (List Dim)) (x1 : (Int × Int)) : Option (LR (Int × Int) Int) :=
  br (decide (x1.2 < ((List.length a0 : Nat) : Int)))
  (bno (lookI a0 x1.2) fun y2 =>
  nxO (some (wi (x1.1 * ((List.length (Dim.members y2) : Nat) : Int)), wi (x1.2 + (1 : Int)))))
  (dnO (some (x1.1, x1.2)))
noncomputable def S106 (a0 : (List Dim)) : Option Int :=
  lp (S106_L1 a0) ((1 : Int), (0 : Int)) fun x3 =>
  some x3.1
theorem s106 (a0 : (List Dim)) : tf106.run [] [(.st .outl)] .int a0 = S106 a0 := by kernel_rfl
noncomputable def P106 (a0 : (List Dim)) : Option Int := S106 a0
noncomputable def k106 : CSpec := ⟨106, [(.st .outl)], .int, fun x => P106 x, false, []⟩
theorem r106 {S : Seat} (h : Ok1 S 106 tf106) : Rt S k106 := fun x y hy =>
  Ok1.sound h (C := []) CSound.nil rfl rfl rfl ((s106 x).trans hy) rfl
def tc96 : TCode :=
  .seq (.region [
 oq 2 (.box (.t 0)),
 oq 4 (.mov (.c (.int .i64 0)))] [] false)
  (.seq (.seq (.region [
 oq 5 (.mov (.c (.int .i64 0)))] [] false)
  (.loop ⟨[.slot 5 .int], [6, 7, 8, 9, 10, 11, 12, 13, 14, 15, 16, 17, 18, 19, 20], [], []⟩ 0 (.seq (.seq (.region [
 oq 6 (.mov (.t 5)),
 oq 7 (.fa 2 (.t 2)),
 oq 8 (.load none (.t 7)),
 oq 9 (.len false (.t 8)),
 oq 10 (.bin .int .lss (.t 6) (.t 9))] [] false)
    (.cond (.t 10)
      (.skip)
      (.exit 0)))
    (.seq (.block 1 (.seq (.region [
 oq 13 (.fa 2 (.t 2)),
 oq 14 (.load none (.t 13)),
 oq 15 (.mov (.t 5)),
 oq 16 (.ia 4 (.t 14) (.t 15)),
 oq 17 (.fa 0 (.t 16)),
 oq 18 (.load none (.t 17)),
 oq 19 (.mov (.t 1)),
 oq 20 (.bin .str .eql (.t 18) (.t 19))] [] false)
      (.cond (.t 20)
        (.seq (.region [
 oq 21 (.mov (.t 5)),
 oq 4 (.mov (.t 21))] [] false)
        (.ret))
        (.skip))))
    (.region [
 oq 11 (.mov (.t 5)),
 oq 12 (.bin .int .add (.t 11) (.c (.int .i64 1))),
 oq 5 (.mov (.t 12))] [] false)))))
  (.seq (.region [
 oq 4 (.mov (.c (.int .i64 (-1))))] [] false)
  (.ret)))
def tf96 : TFunc := { np := 2, nt := 22, res := [.tmp 4], own := false, body := tc96 }
noncomputable def S96_L1 (a0 : Dim) (a1 : ByteArray) (x1 : Int) : Option (LR Int Int) :=
  br (decide (x1 < ((List.length (Dim.members a0) : Nat) : Int)))
  (bno (lookI (Dim.members a0) x1) fun y2 =>
  br (decide ((Member.name y2) = a1))
  (finO (some x1))
  (nxO (some (wi (x1 + (1 : Int))))))
  (dnO (some x1))
noncomputable def S96 (a0 : Dim) (a1 : ByteArray) : Option Int :=
  lp (S96_L1 a0 a1) (0 : Int) fun x3 =>
  some (-1 : Int)
theorem s96 (a0 : Dim) (a1 : ByteArray) : tf96.run [] [(.st .dim), .str] .int (a0, a1) = S96 a0 a1 := by kernel_rfl
noncomputable def P96 (a0 : Dim) (a1 : ByteArray) : Option Int := S96 a0 a1
noncomputable def k96 : CSpec := ⟨96, [(.st .dim), .str], .int, fun x => P96 x.1 x.2, false, []⟩
theorem r96 {S : Seat} (h : Ok1 S 96 tf96) : Rt S k96 := fun x y hy =>
  Ok1.sound h (C := []) CSound.nil rfl rfl rfl ((s96 x.1 x.2).trans hy) rfl
def tc97 : TCode :=
  .seq (.region [
 oq 2 (.mov (.c (.int .i64 0)))] [] false)
  (.seq (.seq (.regionJ ⟨[.slot 10 .bool], [4, 5, 6, 7, 8, 9], [], []⟩ [
 oq 4 (.mov (.t 0)),
 oq 5 (.bin .str .eql (.t 4) (.c (.string ⟨#[]⟩))),
 oq 6 (.mov (.t 5)),
  ⟨some 7, .mov (.t 0), (some (6, false)), []⟩,
  ⟨some 8, .len true (.t 7), (some (6, false)), []⟩,
  ⟨some 9, .bin .int .gtr (.t 8) (.c (.int .i64 8)), (some (6, false)), []⟩,
 oq 10 (.pick (.t 6) (.c (.bool true)) (.t 9))] [] false)
  (.cond (.t 10)
    (.seq (.region [
 oq 2 (.mov (.c (.int .i64 2)))] [] false)
    (.ret))
    (.skip)))
  (.seq (.seq (.region [
 oq 3 (.mov (.c (.int .i64 0)))] [] false)
  (.loop ⟨[.slot 3 .int], [11, 12, 13, 14, 15, 16, 17, 18, 19, 20, 21, 22, 23, 24, 25, 26], [], []⟩ 0 (.seq (.seq (.region [
 oq 11 (.mov (.t 3)),
 oq 12 (.mov (.t 0)),
 oq 13 (.len true (.t 12)),
 oq 14 (.bin .int .lss (.t 11) (.t 13))] [] false)
    (.cond (.t 14)
      (.skip)
      (.exit 0)))
    (.seq (.block 1 (.seq (.regionJ ⟨[.slot 26 .bool], [17, 18, 19, 20, 21, 22, 23, 24, 25], [], []⟩ [
 oq 17 (.mov (.t 0)),
 oq 18 (.mov (.t 3)),
 oq 19 (.ix (.t 17) (.t 18)),
 oq 20 (.bin .int .lss (.t 19) (.c (.int .u8 97))),
 oq 21 (.mov (.t 20)),
  ⟨some 22, .mov (.t 0), (some (21, false)), []⟩,
  ⟨some 23, .mov (.t 3), (some (21, false)), []⟩,
  ⟨some 24, .ix (.t 22) (.t 23), (some (21, false)), []⟩,
  ⟨some 25, .bin .int .gtr (.t 24) (.c (.int .u8 122)), (some (21, false)), []⟩,
 oq 26 (.pick (.t 21) (.c (.bool true)) (.t 25))] [] false)
      (.cond (.t 26)
        (.seq (.region [
 oq 2 (.mov (.c (.int .i64 2)))] [] false)
        (.ret))
        (.skip))))
    (.region [
 oq 15 (.mov (.t 3)),
 oq 16 (.bin .int .add (.t 15) (.c (.int .i64 1))),
 oq 3 (.mov (.t 16))] [] false)))))
  (.seq (.region [
 oq 2 (.mov (.c (.int .i64 0)))] [] false)
  (.ret))))
def tf97 : TFunc := { np := 1, nt := 27, res := [.tmp 2], own := false, body := tc97 }
noncomputable def S97_L1 (a0 : ByteArray) (x2 : Int) : Option (LR Int Int) :=
  br (decide (x2 < ((ByteArray.size a0 : Nat) : Int)))
  (jn (σ := Bool) (α := (LR Int Int)) (bno (lookI (ByteArray.data a0).toList x2) fun y3 =>
  br (decide (((UInt8.toNat y3 : Nat) : Int) < (97 : Int)))
  (inlO (some true))
  (bno (lookI (ByteArray.data a0).toList x2) fun y4 =>
  inlO (some (decide ((122 : Int) < ((UInt8.toNat y4 : Nat) : Int)))))) fun x5 =>
  br x5
  (finO (some (2 : Int)))
  (nxO (some (wi (x2 + (1 : Int))))))
  (dnO (some x2))
noncomputable def S97 (a0 : ByteArray) : Option Int :=
  jn (σ := Bool) (α := Int) (br (decide (a0 = (⟨#[]⟩ : ByteArray)))
  (inlO (some true))
  (inlO (some (decide ((8 : Int) < ((ByteArray.size a0 : Nat) : Int)))))) fun x1 =>
  br x1
  (some (2 : Int))
  (lp (S97_L1 a0) (0 : Int) fun x6 =>
  some (0 : Int))
theorem s97 (a0 : ByteArray) : tf97.run [] [.str] .int a0 = S97 a0 := by kernel_rfl
noncomputable def P97 (a0 : ByteArray) : Option Int := S97 a0
noncomputable def k97 : CSpec := ⟨97, [.str], .int, fun x => P97 x, false, []⟩
theorem r97 {S : Seat} (h : Ok1 S 97 tf97) : Rt S k97 := fun x y hy =>
  Ok1.sound h (C := []) CSound.nil rfl rfl rfl ((s97 x).trans hy) rfl
def tc95 : TCode :=
  .seq (.region [
 oq 1 (.box (.t 0)),
 oq 2 (.mov (.c (.int .i64 0))),
 oq 3 (.mov (.c (.int .i64 0)))] [] false)
  (.seq (.seq (.region [
 oq 6 (.fa 0 (.t 1)),
 oq 7 (.load none (.t 6)),
 oq 8 (.call false [] 97 [(.t 7)]),
 oq 9 (.bin .int .neq (.t 8) (.c (.int .i64 0)))] [] false)
  (.cond (.t 9)
    (.seq (.region [
 oq 2 (.mov (.c (.int .i64 (-1)))),
 oq 3 (.mov (.c (.int .i64 2)))] [] false)
    (.ret))
    (.skip)))
  (.seq (.seq (.regionJ ⟨[.slot 17 .bool], [10, 11, 12, 13, 14, 15, 16], [], []⟩ [
 oq 10 (.fa 1 (.t 1)),
 oq 11 (.load none (.t 10)),
 oq 12 (.bin .int .lss (.t 11) (.c (.int .i64 0))),
 oq 13 (.mov (.t 12)),
  ⟨some 14, .fa 1 (.t 1), (some (13, false)), []⟩,
  ⟨some 15, .load none (.t 14), (some (13, false)), []⟩,
  ⟨some 16, .bin .int .gtr (.t 15) (.c (.int .i64 9)), (some (13, false)), []⟩,
 oq 17 (.pick (.t 13) (.c (.bool true)) (.t 16))] [] false)
  (.cond (.t 17)
    (.seq (.region [
 oq 2 (.mov (.c (.int .i64 (-1)))),
 oq 3 (.mov (.c (.int .i64 1)))] [] false)
    (.ret))
    (.skip)))
  (.seq (.seq (.region [
 oq 18 (.fa 2 (.t 1)),
 oq 19 (.load none (.t 18)),
 oq 20 (.len false (.t 19)),
 oq 21 (.bin .int .gtr (.t 20) (.c (.int .i64 12)))] [] false)
  (.cond (.t 21)
    (.seq (.region [
 oq 2 (.mov (.c (.int .i64 (-1)))),
 oq 3 (.mov (.c (.int .i64 4)))] [] false)
    (.ret))
    (.skip)))
  (.seq (.seq (.region [
 oq 22 (.fa 2 (.t 1)),
 oq 23 (.load none (.t 22)),
 oq 24 (.len false (.t 23)),
 oq 25 (.bin .int .eql (.t 24) (.c (.int .i64 0)))] [] false)
  (.cond (.t 25)
    (.seq (.region [
 oq 2 (.mov (.c (.int .i64 (-1)))),
 oq 3 (.mov (.c (.int .i64 5)))] [] false)
    (.ret))
    (.skip)))
  (.seq (.seq (.region [
 oq 4 (.mov (.c (.int .i64 0)))] [] false)
  (.loop ⟨[.slot 4 .int], [5, 26, 27, 28, 29, 30, 31, 32, 33, 34, 35, 36, 37, 38, 39, 40, 41, 43, 44, 45, 46, 47, 48, 50, 51, 52, 53, 54, 55, 56, 57, 58, 60, 61, 62, 63, 64, 65, 66, 67, 68, 69, 70, 71, 72, 74, 75, 76, 77, 78, 79, 80, 81, 83, 84, 85, 86], [5], []⟩ 0 (.seq (.seq (.region [
 oq 26 (.mov (.t 4)),
 oq 27 (.fa 2 (.t 1)),
 oq 28 (.load none (.t 27)),
 oq 29 (.len false (.t 28)),
 oq 30 (.bin .int .lss (.t 26) (.t 29))] [] false)
    (.cond (.t 30)
      (.skip)
      (.exit 0)))
    (.seq (.block 1 (.seq (.region [
 oq 33 (.fa 2 (.t 1)),
 oq 34 (.load none (.t 33)),
 oq 35 (.mov (.t 4)),
 oq 36 (.ia 4 (.t 34) (.t 35)),
 oq 37 (.load (some 4) (.t 36)),
 oq 5 (.alloc [.string ⟨#[]⟩, .int .i64 0, .int .i64 0, .string ⟨#[]⟩]),
  ⟨none, .store 4 (.t 5) (.t 37), none, []⟩] [] false)
      (.seq (.seq (.region [
 oq 38 (.fa 0 (.t 5)),
 oq 39 (.load none (.t 38)),
 oq 40 (.call false [] 97 [(.t 39)]),
 oq 41 (.bin .int .neq (.t 40) (.c (.int .i64 0)))] [] false)
      (.cond (.t 41)
        (.seq (.region [
 oq 42 (.mov (.t 4)),
 oq 2 (.mov (.t 42)),
 oq 3 (.mov (.c (.int .i64 2)))] [] false)
        (.ret))
        (.skip)))
      (.seq (.seq (.region [
 oq 43 (.load (some 3) (.t 1)),
 oq 44 (.fa 0 (.t 5)),
 oq 45 (.load none (.t 44)),
 oq 46 (.call false [] 96 [(.t 43), (.t 45)]),
 oq 47 (.mov (.t 4)),
 oq 48 (.bin .int .lss (.t 46) (.t 47))] [] false)
      (.cond (.t 48)
        (.seq (.region [
 oq 49 (.mov (.t 4)),
 oq 2 (.mov (.t 49)),
 oq 3 (.mov (.c (.int .i64 7)))] [] false)
        (.ret))
        (.skip)))
      (.seq (.seq (.regionJ ⟨[.slot 58 .bool], [50, 51, 52, 53, 54, 55, 56, 57], [], []⟩ [
 oq 50 (.fa 1 (.t 5)),
 oq 51 (.load none (.t 50)),
 oq 52 (.bin .int .lss (.t 51) (.c (.int .i64 (-1)))),
 oq 53 (.mov (.t 52)),
  ⟨some 54, .fa 1 (.t 5), (some (53, false)), []⟩,
  ⟨some 55, .load none (.t 54), (some (53, false)), []⟩,
  ⟨some 56, .mov (.t 4), (some (53, false)), []⟩,
  ⟨some 57, .bin .int .geq (.t 55) (.t 56), (some (53, false)), []⟩,
 oq 58 (.pick (.t 53) (.c (.bool true)) (.t 57))] [] false)
      (.cond (.t 58)
        (.seq (.region [
 oq 59 (.mov (.t 4)),
 oq 2 (.mov (.t 59)),
 oq 3 (.mov (.c (.int .i64 1)))] [] false)
        (.ret))
        (.skip)))
      (.seq (.seq (.regionJ ⟨[.slot 72 .bool], [60, 61, 62, 63, 64, 65, 66, 67, 68, 69, 70, 71], [], []⟩ [
 oq 60 (.fa 1 (.t 5)),
 oq 61 (.load none (.t 60)),
 oq 62 (.bin .int .geq (.t 61) (.c (.int .i64 0))),
 oq 63 (.mov (.t 62)),
  ⟨some 64, .fa 2 (.t 1), (some (63, true)), []⟩,
  ⟨some 65, .load none (.t 64), (some (63, true)), []⟩,
  ⟨some 66, .fa 1 (.t 5), (some (63, true)), []⟩,
  ⟨some 67, .load none (.t 66), (some (63, true)), []⟩,
  ⟨some 68, .ia 4 (.t 65) (.t 67), (some (63, true)), []⟩,
  ⟨some 69, .fa 3 (.t 68), (some (63, true)), []⟩,
  ⟨some 70, .load none (.t 69), (some (63, true)), []⟩,
  ⟨some 71, .bin .str .neq (.t 70) (.c (.string ⟨#[]⟩)), (some (63, true)), []⟩,
 oq 72 (.pick (.t 63) (.t 71) (.c (.bool false)))] [] false)
      (.cond (.t 72)
        (.seq (.region [
 oq 73 (.mov (.t 4)),
 oq 2 (.mov (.t 73)),
 oq 3 (.mov (.c (.int .i64 6)))] [] false)
        (.ret))
        (.skip)))
      (.seq (.seq (.regionJ ⟨[.slot 81 .bool], [74, 75, 76, 77, 78, 79, 80], [], []⟩ [
 oq 74 (.fa 2 (.t 5)),
 oq 75 (.load none (.t 74)),
 oq 76 (.bin .int .lss (.t 75) (.c (.int .i64 (-1)))),
 oq 77 (.mov (.t 76)),
  ⟨some 78, .fa 2 (.t 5), (some (77, false)), []⟩,
  ⟨some 79, .load none (.t 78), (some (77, false)), []⟩,
  ⟨some 80, .bin .int .gtr (.t 79) (.c (.int .i64 1)), (some (77, false)), []⟩,
 oq 81 (.pick (.t 77) (.c (.bool true)) (.t 80))] [] false)
      (.cond (.t 81)
        (.seq (.region [
 oq 82 (.mov (.t 4)),
 oq 2 (.mov (.t 82)),
 oq 3 (.mov (.c (.int .i64 1)))] [] false)
        (.ret))
        (.skip)))
      (.seq (.region [
 oq 83 (.fa 3 (.t 5)),
 oq 84 (.load none (.t 83)),
 oq 85 (.len true (.t 84)),
 oq 86 (.bin .int .gtr (.t 85) (.c (.int .i64 100)))] [] false)
      (.cond (.t 86)
        (.seq (.region [
 oq 87 (.mov (.t 4)),
 oq 2 (.mov (.t 87)),
 oq 3 (.mov (.c (.int .i64 4)))] [] false)
        (.ret))
        (.skip))))))))))
    (.region [
 oq 31 (.mov (.t 4)),
 oq 32 (.bin .int .add (.t 31) (.c (.int .i64 1))),
 oq 4 (.mov (.t 32))] [] false)))))
  (.seq (.region [
 oq 2 (.mov (.c (.int .i64 (-1)))),
 oq 3 (.mov (.c (.int .i64 0)))] [] false)
  (.ret)))))))
def tf95 : TFunc := { np := 1, nt := 88, res := [.tmp 2, .tmp 3], own := false, body := tc95 }
noncomputable def S95_L1 (F96 : Dim → ByteArray → (Option Int)) (F97 : ByteArray → (Option Int)) (a0 : Dim) (x3 : Int) : Option (LR Int (Int × Int)) :=
  br (decide (x3 < ((List.length (Dim.members a0) : Nat) : Int)))
  (bno (lookI (Dim.members a0) x3) fun y4 =>
  bno (F97 (Member.name y4)) fun y5 =>
  br (decide (¬ y5 = (0 : Int)))
  (finO (some (x3, (2 : Int))))
  (bno (F96 a0 (Member.name y4)) fun y6 =>
  br (decide (y6 < x3))
  (finO (some (x3, (7 : Int))))
  (jn (σ := Bool) (α := (LR Int (Int × Int))) (br (decide ((Member.parent y4) < (-1 : Int)))
  (inlO (some true))
  (inlO (some (decide (x3 ≤ (Member.parent y4)))))) fun x7 =>
  br x7
  (finO (some (x3, (1 : Int))))
  (jn (σ := Bool) (α := (LR Int (Int × Int))) (br (decide ((0 : Int) ≤ (Member.parent y4)))
  (bno (lookI (Dim.members a0) (Member.parent y4)) fun y8 =>
  inlO (some (decide (¬ (Member.formula y8) = (⟨#[]⟩ : ByteArray)))))
  (inlO (some false))) fun x9 =>
  br x9
  (finO (some (x3, (6 : Int))))
  (jn (σ := Bool) (α := (LR Int (Int × Int))) (br (decide ((Member.sign y4) < (-1 : Int)))
  (inlO (some true))
  (inlO (some (decide ((1 : Int) < (Member.sign y4)))))) fun x10 =>
  br x10
  (finO (some (x3, (1 : Int))))
  (br (decide ((100 : Int) < ((ByteArray.size (Member.formula y4) : Nat) : Int)))
  (finO (some (x3, (4 : Int))))
  (nxO (some (wi (x3 + (1 : Int)))))))))))
  (dnO (some x3))
noncomputable def S95 (F96 : Dim → ByteArray → (Option Int)) (F97 : ByteArray → (Option Int)) (a0 : Dim) : Option (Int × Int) :=
  bno (F97 (Dim.name a0)) fun y1 =>
  br (decide (¬ y1 = (0 : Int)))
  (some ((-1 : Int), (2 : Int)))
  (jn (σ := Bool) (α := (Int × Int)) (br (decide ((Dim.solve a0) < (0 : Int)))
  (inlO (some true))
  (inlO (some (decide ((9 : Int) < (Dim.solve a0)))))) fun x2 =>
  br x2
  (some ((-1 : Int), (1 : Int)))
  (br (decide ((12 : Int) < ((List.length (Dim.members a0) : Nat) : Int)))
  (some ((-1 : Int), (4 : Int)))
  (br (decide (((List.length (Dim.members a0) : Nat) : Int) = (0 : Int)))
  (some ((-1 : Int), (5 : Int)))
  (lp (S95_L1 F96 F97 a0) (0 : Int) fun x11 =>
  some ((-1 : Int), (0 : Int))))))
theorem s95 (F96 : Dim → ByteArray → (Option Int)) (F97 : ByteArray → (Option Int)) (a0 : Dim) : tf95.run [⟨96, [(.st .dim), .str], .int, fun x => F96 x.1 x.2, false, []⟩,
  ⟨97, [.str], .int, fun x => F97 x, false, []⟩] [(.st .dim)] (.tp [.int, .int]) a0 = S95 F96 F97 a0 := by kernel_rfl
noncomputable def P95 (a0 : Dim) : Option (Int × Int) := S95 P96 P97 a0
noncomputable def k95 : CSpec := ⟨95, [(.st .dim)], (.tp [.int, .int]), fun x => P95 x, false, []⟩
theorem r95 {S : Seat} (h : Ok1 S 95 tf95) (h96 : Rt S k96) (h97 : Rt S k97) : Rt S k95 := fun x y hy =>
  Ok1.sound h (C := [k96, k97]) (CSound.cons h96 (CSound.cons h97 CSound.nil)) rfl rfl rfl ((s95 P96 P97 x).trans hy) rfl
def tc94 : TCode :=
  .seq (.region [
 oq 1 (.box (.t 0)),
 oq 2 (.mov (.c (.int .i64 0))),
 oq 3 (.mov (.c (.int .i64 0))),
 oq 4 (.mov (.c (.int .i64 0)))] [] false)
  (.seq (.seq (.region [
 oq 9 (.fa 0 (.t 1)),
 oq 10 (.load none (.t 9)),
 oq 11 (.len false (.t 10)),
 oq 12 (.bin .int .gtr (.t 11) (.c (.int .i64 4)))] [] false)
  (.cond (.t 12)
    (.seq (.region [
 oq 2 (.mov (.c (.int .i64 (-1)))),
 oq 3 (.mov (.c (.int .i64 (-1)))),
 oq 4 (.mov (.c (.int .i64 4)))] [] false)
    (.ret))
    (.skip)))
  (.seq (.seq (.region [
 oq 13 (.fa 0 (.t 1)),
 oq 14 (.load none (.t 13)),
 oq 15 (.len false (.t 14)),
 oq 16 (.bin .int .eql (.t 15) (.c (.int .i64 0)))] [] false)
  (.cond (.t 16)
    (.seq (.region [
 oq 2 (.mov (.c (.int .i64 (-1)))),
 oq 3 (.mov (.c (.int .i64 (-1)))),
 oq 4 (.mov (.c (.int .i64 5)))] [] false)
    (.ret))
    (.skip)))
  (.seq (.seq (.region [
 oq 5 (.mov (.c (.int .i64 0)))] [] false)
  (.loop ⟨[.slot 5 .int], [6, 7, 8, 17, 18, 19, 20, 21, 22, 23, 24, 25, 26, 27, 28, 29, 30, 31, 32, 33, 34, 35, 36, 37, 38, 39, 40, 41, 42, 43, 44, 45, 46, 47, 48, 49, 50, 51, 52, 53, 54, 55, 56], [], []⟩ 0 (.seq (.seq (.region [
 oq 17 (.mov (.t 5)),
 oq 18 (.fa 0 (.t 1)),
 oq 19 (.load none (.t 18)),
 oq 20 (.len false (.t 19)),
 oq 21 (.bin .int .lss (.t 17) (.t 20))] [] false)
    (.cond (.t 21)
      (.skip)
      (.exit 0)))
    (.seq (.block 1 (.seq (.region [
 oq 25 (.fa 0 (.t 1)),
 oq 26 (.load none (.t 25)),
 oq 27 (.mov (.t 5)),
 oq 28 (.ia 3 (.t 26) (.t 27)),
 oq 29 (.load (some 3) (.t 28)),
 oq 30 (.call false [] 95 [(.t 29)]),
 oq 24 (.mov (.t 30)),
 oq 31 (.ext (.t 24) 0),
 oq 32 (.ext (.t 24) 1),
 oq 6 (.mov (.t 31)),
 oq 7 (.mov (.t 32))] [] false)
      (.seq (.seq (.region [
 oq 8 (.mov (.c (.int .i64 0)))] [] false)
      (.loop ⟨[.slot 7 .int, .slot 8 .int], [33, 34, 35, 36, 37, 38, 39, 40, 41, 42, 43, 44, 45, 46, 47, 48, 49, 50, 51, 52, 53, 54], [], []⟩ 2 (.seq (.seq (.regionJ ⟨[.slot 39 .bool], [33, 34, 35, 36, 37, 38], [], []⟩ [
 oq 33 (.mov (.t 8)),
 oq 34 (.mov (.t 5)),
 oq 35 (.bin .int .lss (.t 33) (.t 34)),
 oq 36 (.mov (.t 35)),
  ⟨some 37, .mov (.t 7), (some (36, true)), []⟩,
  ⟨some 38, .bin .int .eql (.t 37) (.c (.int .i64 0)), (some (36, true)), []⟩,
 oq 39 (.pick (.t 36) (.t 38) (.c (.bool false)))] [] false)
        (.cond (.t 39)
          (.skip)
          (.exit 2)))
        (.seq (.block 3 (.seq (.region [
 oq 42 (.fa 0 (.t 1)),
  ⟨some 43, .load none (.t 42), none, [0]⟩,
 oq 44 (.mov (.t 8)),
  ⟨some 45, .ia 3 (.t 43) (.t 44), none, [1, 2]⟩,
  ⟨some 46, .fa 0 (.t 45), none, [3]⟩,
  ⟨some 47, .load none (.t 46), none, [4]⟩,
 oq 48 (.fa 0 (.t 1)),
  ⟨some 49, .load none (.t 48), none, [6]⟩,
 oq 50 (.mov (.t 5)),
  ⟨some 51, .ia 3 (.t 49) (.t 50), none, [7, 8]⟩,
  ⟨some 52, .fa 0 (.t 51), none, [9]⟩,
  ⟨some 53, .load none (.t 52), none, [10]⟩,
  ⟨some 54, .bin .str .eql (.t 47) (.t 53), none, [5, 11]⟩] [] true)
          (.condJ ⟨[.slot 7 .int], [], [], []⟩ (.t 54)
            (.region [
 oq 7 (.mov (.c (.int .i64 7)))] [] false)
            (.skip))))
        (.region [
 oq 40 (.mov (.t 8)),
 oq 41 (.bin .int .add (.t 40) (.c (.int .i64 1))),
 oq 8 (.mov (.t 41))] [] false)))))
      (.seq (.region [
 oq 55 (.mov (.t 7)),
 oq 56 (.bin .int .neq (.t 55) (.c (.int .i64 0)))] [] false)
      (.cond (.t 56)
        (.seq (.region [
 oq 57 (.mov (.t 5)),
 oq 58 (.mov (.t 6)),
 oq 59 (.mov (.t 7)),
 oq 2 (.mov (.t 57)),
 oq 3 (.mov (.t 58)),
 oq 4 (.mov (.t 59))] [] false)
        (.ret))
        (.skip))))))
    (.region [
 oq 22 (.mov (.t 5)),
 oq 23 (.bin .int .add (.t 22) (.c (.int .i64 1))),
 oq 5 (.mov (.t 23))] [] false)))))
  (.seq (.seq (.region [
 oq 60 (.load (some 1) (.t 1)),
 oq 61 (.call false [] 106 [(.t 60)]),
 oq 62 (.bin .int .gtr (.t 61) (.c (.int .i64 3000)))] [] false)
  (.cond (.t 62)
    (.seq (.region [
 oq 2 (.mov (.c (.int .i64 (-1)))),
 oq 3 (.mov (.c (.int .i64 (-1)))),
 oq 4 (.mov (.c (.int .i64 4)))] [] false)
    (.ret))
    (.skip)))
  (.seq (.region [
 oq 2 (.mov (.c (.int .i64 (-1)))),
 oq 3 (.mov (.c (.int .i64 (-1)))),
 oq 4 (.mov (.c (.int .i64 0)))] [] false)
  (.ret))))))
def tf94 : TFunc := { np := 1, nt := 63, res := [.tmp 2, .tmp 3, .tmp 4], own := false, body := tc94 }
noncomputable def S94_L1 (a0 : (List Dim)) (x1 : Int) (x4 : (Int × Int)) : Option (LR (Int × Int) (LR Int (Int × Int × Int))) :=
  jn (σ := Bool) (α := (LR (Int × Int) (LR Int (Int × Int × Int)))) (br (decide (x4.2 < x1))
  (inlO (some (decide (x4.1 = (0 : Int)))))
  (inlO (some false))) fun x5 =>
  br x5
  (bno (lookI a0 x4.2) fun y6 =>
  bno (lookI a0 x1) fun y7 =>
  jn (σ := Int) (α := (LR (Int × Int) (LR Int (Int × Int × Int)))) (br (decide ((Dim.name y6) = (Dim.name y7)))
  (inlO (some (7 : Int)))
  (inlO (some x4.1))) fun x8 =>
  nxO (some (x8, wi (x4.2 + (1 : Int)))))
  (dnO (some (x4.1, x4.2)))
noncomputable def S94_L2 (F95 : Dim → (Option (Int × Int))) (a0 : (List Dim)) (x1 : Int) : Option (LR Int (Int × Int × Int)) :=
  br (decide (x1 < ((List.length a0 : Nat) : Int)))
  (bno (lookI a0 x1) fun y2 =>
  bno (F95 y2) fun y3 =>
  lp (S94_L1 a0 x1) (y3.2, (0 : Int)) fun x9 =>
  br (decide (¬ x9.1 = (0 : Int)))
  (finO (some (x1, y3.1, x9.1)))
  (nxO (some (wi (x1 + (1 : Int))))))
  (dnO (some x1))
noncomputable def S94 (F106 : (List Dim) → (Option Int)) (F95 : Dim → (Option (Int × Int))) (a0 : (List Dim)) : Option (Int × Int × Int) :=
  br (decide ((4 : Int) < ((List.length a0 : Nat) : Int)))
  (some ((-1 : Int), (-1 : Int), (4 : Int)))
  (br (decide (((List.length a0 : Nat) : Int) = (0 : Int)))
  (some ((-1 : Int), (-1 : Int), (5 : Int)))
  (lp (S94_L2 F95 a0) (0 : Int) fun x10 =>
  bno (F106 a0) fun y11 =>
  br (decide ((3000 : Int) < y11))
  (some ((-1 : Int), (-1 : Int), (4 : Int)))
  (some ((-1 : Int), (-1 : Int), (0 : Int)))))
theorem s94 (F106 : (List Dim) → (Option Int)) (F95 : Dim → (Option (Int × Int))) (a0 : (List Dim)) : tf94.run [⟨106, [(.st .outl)], .int, fun x => F106 x, false, []⟩,
  ⟨95, [(.st .dim)], (.tp [.int, .int]), fun x => F95 x, false, []⟩] [(.st .outl)] (.tp [.int, .int, .int]) a0 = S94 F106 F95 a0 := by kernel_rfl
noncomputable def P94 (a0 : (List Dim)) : Option (Int × Int × Int) := S94 P106 P95 a0
noncomputable def k94 : CSpec := ⟨94, [(.st .outl)], (.tp [.int, .int, .int]), fun x => P94 x, false, []⟩
theorem r94 {S : Seat} (h : Ok1 S 94 tf94) (h106 : Rt S k106) (h95 : Rt S k95) : Rt S k94 := fun x y hy =>
  Ok1.sound h (C := [k106, k95]) (CSound.cons h106 (CSound.cons h95 CSound.nil)) rfl rfl rfl ((s94 P106 P95 x).trans hy) rfl
def tc100 : TCode :=
  .seq (.region [
 oq 2 (.box (.t 0)),
 oq 4 (.mov (.c (.slice none 0 0)))] [] false)
  (.seq (.region [
 oq 5 (.mov (.c (.slice none 0 0)))] [] false)
  (.seq (.seq (.region [
 oq 6 (.mov (.c (.int .i64 0)))] [] false)
  (.loop ⟨[.row 5 25 .int, .slot 6 .int], [7, 8, 9, 10, 11, 12, 13, 14, 15, 16, 17, 18, 19, 20, 21, 22, 23, 24, 25], [24], []⟩ 0 (.seq (.seq (.region [
 oq 7 (.mov (.t 6)),
 oq 8 (.fa 2 (.t 2)),
 oq 9 (.load none (.t 8)),
 oq 10 (.len false (.t 9)),
 oq 11 (.bin .int .lss (.t 7) (.t 10))] [] false)
    (.cond (.t 11)
      (.skip)
      (.exit 0)))
    (.seq (.block 1 (.seq (.region [
 oq 14 (.fa 2 (.t 2)),
 oq 15 (.load none (.t 14)),
 oq 16 (.mov (.t 6)),
 oq 17 (.ia 4 (.t 15) (.t 16)),
 oq 18 (.fa 1 (.t 17)),
 oq 19 (.load none (.t 18)),
 oq 20 (.mov (.t 1)),
 oq 21 (.bin .int .eql (.t 19) (.t 20))] [] false)
      (.condJ ⟨[.row 5 25 .int], [22, 23, 24, 25], [24], []⟩ (.t 21)
        (.region [
 oq 22 (.mov (.t 5)),
 oq 23 (.mov (.t 6)),
 oq 24 (.bslice false 1 [.int .i64 0] 1 [(0, (.t 23))]),
 oq 25 (.app 1 (.t 22) (.t 24)),
 oq 5 (.mov (.t 25))] [] false)
        (.skip))))
    (.region [
 oq 12 (.mov (.t 6)),
 oq 13 (.bin .int .add (.t 12) (.c (.int .i64 1))),
 oq 6 (.mov (.t 13))] [] false)))))
  (.seq (.region [
 oq 26 (.mov (.t 5)),
 oq 4 (.mov (.t 26))] [] false)
  (.ret))))
def tf100 : TFunc := { np := 2, nt := 27, res := [.tmp 4], own := false, body := tc100 }
noncomputable def S100_L1 (a0 : Dim) (a1 : Int) (x1 : ((List Int) × Int)) : Option (LR ((List Int) × Int) (List Int)) :=
  br (decide (x1.2 < ((List.length (Dim.members a0) : Nat) : Int)))
  (bno (lookI (Dim.members a0) x1.2) fun y2 =>
  jn (σ := (List Int)) (α := (LR ((List Int) × Int) (List Int))) (br (decide ((Member.parent y2) = a1))
  (ck (decide (List.length x1.1 + List.length ([x1.2] : List Int) ≤ roomA)) <|
  inlO (some (x1.1 ++ ([x1.2] : List Int))))
  (inlO (some x1.1))) fun x3 =>
  nxO (some (x3, wi (x1.2 + (1 : Int)))))
  (dnO (some (x1.1, x1.2)))
noncomputable def S100 (a0 : Dim) (a1 : Int) : Option (List Int) :=
  lp (S100_L1 a0 a1) (([] : List Int), (0 : Int)) fun x4 =>
  some x4.1
theorem s100 (a0 : Dim) (a1 : Int) : tf100.run [] [(.st .dim), .int] (.sl .int) (a0, a1) = S100 a0 a1 := by kernel_rfl
noncomputable def P100 (a0 : Dim) (a1 : Int) : Option (List Int) := S100 a0 a1
noncomputable def k100 : CSpec := ⟨100, [(.st .dim), .int], (.sl .int), fun x => P100 x.1 x.2, false, []⟩
theorem r100 {S : Seat} (h : Ok1 S 100 tf100) : Rt S k100 := fun x y hy =>
  Ok1.sound h (C := []) CSound.nil rfl rfl rfl ((s100 x.1 x.2).trans hy) rfl
end Ab
end
section
namespace Ab
open Go
set_option linter.unusedVariables false
set_option maxRecDepth 100000
end Ab
end
section
namespace Ab
open Go
set_option linter.unusedVariables false
set_option maxRecDepth 100000
end Ab
end
