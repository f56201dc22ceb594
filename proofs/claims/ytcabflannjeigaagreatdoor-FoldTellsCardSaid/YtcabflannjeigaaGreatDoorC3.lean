import Derived.Test.YtcabflannjeigaaGreatDoorB2
import Derived.KernelRfl
import Derived.Test.YtcabflannjeigaaGreatDoorC1
section
namespace Ab
open Go
set_option linter.unusedVariables false
set_option maxRecDepth 100000

/- tallyhall/tallyref1.Size -/
def tc106 : TCode :=
  .seq (.region [
  ⟨some 1, .box (.t 0), none, []⟩,
  ⟨some 2, .mov (.c (.int .i64 0)), none, []⟩] [] false)
  (.seq (.region [
  ⟨some 3, .mov (.c (.int .i64 1)), none, []⟩] [] false)
  (.seq (.seq (.region [
  ⟨some 4, .mov (.c (.int .i64 0)), none, []⟩] [] false)
  (.loop ⟨[.slot 3 .int, .slot 4 .int], [5, 6, 7, 8, 9, 10, 11, 12, 13, 14, 15, 16, 17, 18, 19, 20], [], []⟩ 0 (.seq (.seq (.region [
  ⟨some 5, .mov (.t 4), none, []⟩,
  ⟨some 6, .fa 0 (.t 1), none, []⟩,
  ⟨some 7, .load none (.t 6), none, []⟩,
  ⟨some 8, .len false (.t 7), none, []⟩,
  ⟨some 9, .bin .int .lss (.t 5) (.t 8), none, []⟩] [] false)
    (.cond (.t 9)
      (.skip)
      (.exit 0)))
    (.seq (.block 1 (.region [
  ⟨some 12, .mov (.t 3), none, []⟩,
  ⟨some 13, .fa 0 (.t 1), none, []⟩,
  ⟨some 14, .load none (.t 13), none, []⟩,
  ⟨some 15, .mov (.t 4), none, []⟩,
  ⟨some 16, .ia 3 (.t 14) (.t 15), none, []⟩,
  ⟨some 17, .fa 2 (.t 16), none, []⟩,
  ⟨some 18, .load none (.t 17), none, []⟩,
  ⟨some 19, .len false (.t 18), none, []⟩,
  ⟨some 20, .bin .int .mul (.t 12) (.t 19), none, []⟩,
  ⟨some 3, .mov (.t 20), none, []⟩] [] false))
    (.region [
  ⟨some 10, .mov (.t 4), none, []⟩,
  ⟨some 11, .bin .int .add (.t 10) (.c (.int .i64 1)), none, []⟩,
  ⟨some 4, .mov (.t 11), none, []⟩] [] false)))))
  (.seq (.region [
  ⟨some 21, .mov (.t 3), none, []⟩,
  ⟨some 2, .mov (.t 21), none, []⟩] [] false)
  (.ret))))
def tf106 : TFunc := { np := 1, nt := 22, res := [.tmp 2], own := false, body := tc106 }
noncomputable def S106_L1 (a0 : (List Dim)) (x1 : (Int × Int)) : Option (LR (Int × Int) Int) :=
  br (decide (x1.2 < ((List.length a0 : Nat) : Int)))
  (bno (lookI a0 x1.2) fun y2 =>
  nxO (some (wi (x1.1 * ((List.length (Dim.members y2) : Nat) : Int)), wi (x1.2 + (1 : Int)))))
  (dnO (some (x1.1, x1.2)))
noncomputable def S106 (a0 : (List Dim)) : Option Int :=
  lp (S106_L1 a0) ((1 : Int), (0 : Int)) fun x3 =>
  some x3.1
theorem s106 (a0 : (List Dim)) : tf106.run [] [(.st .outl)] .int a0 = S106 a0 := by kernel_rfl
noncomputable def P106 (a0 : (List Dim)) : Option Int := S106 a0
noncomputable def k106 : CSpec := ⟨106, [(.st .outl)], .int, fun x => P106 x, false, []⟩
theorem r106 {S : Seat} (h : Ok1 S 106 tf106) : Rt S k106 := fun x y hy =>
  Ok1.sound h (C := []) CSound.nil rfl rfl rfl ((s106 x).trans hy) rfl

/- tallyhall/tallyref1.Where -/
def tc96 : TCode :=
  .seq (.region [
  ⟨some 2, .box (.t 0), none, []⟩,
  ⟨some 4, .mov (.c (.int .i64 0)), none, []⟩] [] false)
  (.seq (.seq (.region [
  ⟨some 5, .mov (.c (.int .i64 0)), none, []⟩] [] false)
  (.loop ⟨[.slot 5 .int], [6, 7, 8, 9, 10, 11, 12, 13, 14, 15, 16, 17, 18, 19, 20], [], []⟩ 0 (.seq (.seq (.region [
  ⟨some 6, .mov (.t 5), none, []⟩,
  ⟨some 7, .fa 2 (.t 2), none, []⟩,
  ⟨some 8, .load none (.t 7), none, []⟩,
  ⟨some 9, .len false (.t 8), none, []⟩,
  ⟨some 10, .bin .int .lss (.t 6) (.t 9), none, []⟩] [] false)
    (.cond (.t 10)
      (.skip)
      (.exit 0)))
    (.seq (.block 1 (.seq (.region [
  ⟨some 13, .fa 2 (.t 2), none, []⟩,
  ⟨some 14, .load none (.t 13), none, []⟩,
  ⟨some 15, .mov (.t 5), none, []⟩,
  ⟨some 16, .ia 4 (.t 14) (.t 15), none, []⟩,
  ⟨some 17, .fa 0 (.t 16), none, []⟩,
  ⟨some 18, .load none (.t 17), none, []⟩,
  ⟨some 19, .mov (.t 1), none, []⟩,
  ⟨some 20, .bin .str .eql (.t 18) (.t 19), none, []⟩] [] false)
      (.cond (.t 20)
        (.seq (.region [
  ⟨some 21, .mov (.t 5), none, []⟩,
  ⟨some 4, .mov (.t 21), none, []⟩] [] false)
        (.ret))
        (.skip))))
    (.region [
  ⟨some 11, .mov (.t 5), none, []⟩,
  ⟨some 12, .bin .int .add (.t 11) (.c (.int .i64 1)), none, []⟩,
  ⟨some 5, .mov (.t 12), none, []⟩] [] false)))))
  (.seq (.region [
  ⟨some 4, .mov (.c (.int .i64 (-1))), none, []⟩] [] false)
  (.ret)))
def tf96 : TFunc := { np := 2, nt := 22, res := [.tmp 4], own := false, body := tc96 }
noncomputable def S96_L1 (a0 : Dim) (a1 : ByteArray) (x1 : Int) : Option (LR Int Int) :=
  br (decide (x1 < ((List.length (Dim.members a0) : Nat) : Int)))
  (bno (lookI (Dim.members a0) x1) fun y2 =>
  br (decide ((Member.name y2) = a1))
  (finO (some x1))
  (nxO (some (wi (x1 + (1 : Int))))))
  (dnO (some x1))
noncomputable def S96 (a0 : Dim) (a1 : ByteArray) : Option Int :=
  lp (S96_L1 a0 a1) (0 : Int) fun x3 =>
  some (-1 : Int)
theorem s96 (a0 : Dim) (a1 : ByteArray) : tf96.run [] [(.st .dim), .str] .int (a0, a1) = S96 a0 a1 := by kernel_rfl
noncomputable def P96 (a0 : Dim) (a1 : ByteArray) : Option Int := S96 a0 a1
noncomputable def k96 : CSpec := ⟨96, [(.st .dim), .str], .int, fun x => P96 x.1 x.2, false, []⟩
theorem r96 {S : Seat} (h : Ok1 S 96 tf96) : Rt S k96 := fun x y hy =>
  Ok1.sound h (C := []) CSound.nil rfl rfl rfl ((s96 x.1 x.2).trans hy) rfl

/- tallyhall/tallyref1.Name -/
def tc97 : TCode :=
  .seq (.region [
  ⟨some 2, .mov (.c (.int .i64 0)), none, []⟩] [] false)
  (.seq (.seq (.regionJ ⟨[.slot 10 .bool], [4, 5, 6, 7, 8, 9], [], []⟩ [
  ⟨some 4, .mov (.t 0), none, []⟩,
  ⟨some 5, .bin .str .eql (.t 4) (.c (.string ⟨#[]⟩)), none, []⟩,
  ⟨some 6, .mov (.t 5), none, []⟩,
  ⟨some 7, .mov (.t 0), (some (6, false)), []⟩,
  ⟨some 8, .len true (.t 7), (some (6, false)), []⟩,
  ⟨some 9, .bin .int .gtr (.t 8) (.c (.int .i64 8)), (some (6, false)), []⟩,
  ⟨some 10, .pick (.t 6) (.c (.bool true)) (.t 9), none, []⟩] [] false)
  (.cond (.t 10)
    (.seq (.region [
  ⟨some 2, .mov (.c (.int .i64 2)), none, []⟩] [] false)
    (.ret))
    (.skip)))
  (.seq (.seq (.region [
  ⟨some 3, .mov (.c (.int .i64 0)), none, []⟩] [] false)
  (.loop ⟨[.slot 3 .int], [11, 12, 13, 14, 15, 16, 17, 18, 19, 20, 21, 22, 23, 24, 25, 26], [], []⟩ 0 (.seq (.seq (.region [
  ⟨some 11, .mov (.t 3), none, []⟩,
  ⟨some 12, .mov (.t 0), none, []⟩,
  ⟨some 13, .len true (.t 12), none, []⟩,
  ⟨some 14, .bin .int .lss (.t 11) (.t 13), none, []⟩] [] false)
    (.cond (.t 14)
      (.skip)
      (.exit 0)))
    (.seq (.block 1 (.seq (.regionJ ⟨[.slot 26 .bool], [17, 18, 19, 20, 21, 22, 23, 24, 25], [], []⟩ [
  ⟨some 17, .mov (.t 0), none, []⟩,
  ⟨some 18, .mov (.t 3), none, []⟩,
  ⟨some 19, .ix (.t 17) (.t 18), none, []⟩,
  ⟨some 20, .bin .int .lss (.t 19) (.c (.int .u8 97)), none, []⟩,
  ⟨some 21, .mov (.t 20), none, []⟩,
  ⟨some 22, .mov (.t 0), (some (21, false)), []⟩,
  ⟨some 23, .mov (.t 3), (some (21, false)), []⟩,
  ⟨some 24, .ix (.t 22) (.t 23), (some (21, false)), []⟩,
  ⟨some 25, .bin .int .gtr (.t 24) (.c (.int .u8 122)), (some (21, false)), []⟩,
  ⟨some 26, .pick (.t 21) (.c (.bool true)) (.t 25), none, []⟩] [] false)
      (.cond (.t 26)
        (.seq (.region [
  ⟨some 2, .mov (.c (.int .i64 2)), none, []⟩] [] false)
        (.ret))
        (.skip))))
    (.region [
  ⟨some 15, .mov (.t 3), none, []⟩,
  ⟨some 16, .bin .int .add (.t 15) (.c (.int .i64 1)), none, []⟩,
  ⟨some 3, .mov (.t 16), none, []⟩] [] false)))))
  (.seq (.region [
  ⟨some 2, .mov (.c (.int .i64 0)), none, []⟩] [] false)
  (.ret))))
def tf97 : TFunc := { np := 1, nt := 27, res := [.tmp 2], own := false, body := tc97 }
noncomputable def S97_L1 (a0 : ByteArray) (x2 : Int) : Option (LR Int Int) :=
  br (decide (x2 < ((ByteArray.size a0 : Nat) : Int)))
  (jn (σ := Bool) (α := (LR Int Int)) (bno (lookI (ByteArray.data a0).toList x2) fun y3 =>
  br (decide (((UInt8.toNat y3 : Nat) : Int) < (97 : Int)))
  (inlO (some true))
  (bno (lookI (ByteArray.data a0).toList x2) fun y4 =>
  inlO (some (decide ((122 : Int) < ((UInt8.toNat y4 : Nat) : Int)))))) fun x5 =>
  br x5
  (finO (some (2 : Int)))
  (nxO (some (wi (x2 + (1 : Int))))))
  (dnO (some x2))
noncomputable def S97 (a0 : ByteArray) : Option Int :=
  jn (σ := Bool) (α := Int) (br (decide (a0 = (⟨#[]⟩ : ByteArray)))
  (inlO (some true))
  (inlO (some (decide ((8 : Int) < ((ByteArray.size a0 : Nat) : Int)))))) fun x1 =>
  br x1
  (some (2 : Int))
  (lp (S97_L1 a0) (0 : Int) fun x6 =>
  some (0 : Int))
theorem s97 (a0 : ByteArray) : tf97.run [] [.str] .int a0 = S97 a0 := by kernel_rfl
noncomputable def P97 (a0 : ByteArray) : Option Int := S97 a0
noncomputable def k97 : CSpec := ⟨97, [.str], .int, fun x => P97 x, false, []⟩
theorem r97 {S : Seat} (h : Ok1 S 97 tf97) : Rt S k97 := fun x y hy =>
  Ok1.sound h (C := []) CSound.nil rfl rfl rfl ((s97 x).trans hy) rfl

/- tallyhall/tallyref1.Dim -/
def tc95 : TCode :=
  .seq (.region [
  ⟨some 1, .box (.t 0), none, []⟩,
  ⟨some 2, .mov (.c (.int .i64 0)), none, []⟩,
  ⟨some 3, .mov (.c (.int .i64 0)), none, []⟩] [] false)
  (.seq (.seq (.region [
  ⟨some 6, .fa 0 (.t 1), none, []⟩,
  ⟨some 7, .load none (.t 6), none, []⟩,
  ⟨some 8, .call false [] 97 [(.t 7)], none, []⟩,
  ⟨some 9, .bin .int .neq (.t 8) (.c (.int .i64 0)), none, []⟩] [] false)
  (.cond (.t 9)
    (.seq (.region [
  ⟨some 2, .mov (.c (.int .i64 (-1))), none, []⟩,
  ⟨some 3, .mov (.c (.int .i64 2)), none, []⟩] [] false)
    (.ret))
    (.skip)))
  (.seq (.seq (.regionJ ⟨[.slot 17 .bool], [10, 11, 12, 13, 14, 15, 16], [], []⟩ [
  ⟨some 10, .fa 1 (.t 1), none, []⟩,
  ⟨some 11, .load none (.t 10), none, []⟩,
  ⟨some 12, .bin .int .lss (.t 11) (.c (.int .i64 0)), none, []⟩,
  ⟨some 13, .mov (.t 12), none, []⟩,
  ⟨some 14, .fa 1 (.t 1), (some (13, false)), []⟩,
  ⟨some 15, .load none (.t 14), (some (13, false)), []⟩,
  ⟨some 16, .bin .int .gtr (.t 15) (.c (.int .i64 9)), (some (13, false)), []⟩,
  ⟨some 17, .pick (.t 13) (.c (.bool true)) (.t 16), none, []⟩] [] false)
  (.cond (.t 17)
    (.seq (.region [
  ⟨some 2, .mov (.c (.int .i64 (-1))), none, []⟩,
  ⟨some 3, .mov (.c (.int .i64 1)), none, []⟩] [] false)
    (.ret))
    (.skip)))
  (.seq (.seq (.region [
  ⟨some 18, .fa 2 (.t 1), none, []⟩,
  ⟨some 19, .load none (.t 18), none, []⟩,
  ⟨some 20, .len false (.t 19), none, []⟩,
  ⟨some 21, .bin .int .gtr (.t 20) (.c (.int .i64 12)), none, []⟩] [] false)
  (.cond (.t 21)
    (.seq (.region [
  ⟨some 2, .mov (.c (.int .i64 (-1))), none, []⟩,
  ⟨some 3, .mov (.c (.int .i64 4)), none, []⟩] [] false)
    (.ret))
    (.skip)))
  (.seq (.seq (.region [
  ⟨some 22, .fa 2 (.t 1), none, []⟩,
  ⟨some 23, .load none (.t 22), none, []⟩,
  ⟨some 24, .len false (.t 23), none, []⟩,
  ⟨some 25, .bin .int .eql (.t 24) (.c (.int .i64 0)), none, []⟩] [] false)
  (.cond (.t 25)
    (.seq (.region [
  ⟨some 2, .mov (.c (.int .i64 (-1))), none, []⟩,
  ⟨some 3, .mov (.c (.int .i64 5)), none, []⟩] [] false)
    (.ret))
    (.skip)))
  (.seq (.seq (.region [
  ⟨some 4, .mov (.c (.int .i64 0)), none, []⟩] [] false)
  (.loop ⟨[.slot 4 .int], [5, 26, 27, 28, 29, 30, 31, 32, 33, 34, 35, 36, 37, 38, 39, 40, 41, 43, 44, 45, 46, 47, 48, 50, 51, 52, 53, 54, 55, 56, 57, 58, 60, 61, 62, 63, 64, 65, 66, 67, 68, 69, 70, 71, 72, 74, 75, 76, 77, 78, 79, 80, 81, 83, 84, 85, 86], [5], []⟩ 0 (.seq (.seq (.region [
  ⟨some 26, .mov (.t 4), none, []⟩,
  ⟨some 27, .fa 2 (.t 1), none, []⟩,
  ⟨some 28, .load none (.t 27), none, []⟩,
  ⟨some 29, .len false (.t 28), none, []⟩,
  ⟨some 30, .bin .int .lss (.t 26) (.t 29), none, []⟩] [] false)
    (.cond (.t 30)
      (.skip)
      (.exit 0)))
    (.seq (.block 1 (.seq (.region [
  ⟨some 33, .fa 2 (.t 1), none, []⟩,
  ⟨some 34, .load none (.t 33), none, []⟩,
  ⟨some 35, .mov (.t 4), none, []⟩,
  ⟨some 36, .ia 4 (.t 34) (.t 35), none, []⟩,
  ⟨some 37, .load (some 4) (.t 36), none, []⟩,
  ⟨some 5, .alloc [.string ⟨#[]⟩, .int .i64 0, .int .i64 0, .string ⟨#[]⟩], none, []⟩,
  ⟨none, .store 4 (.t 5) (.t 37), none, []⟩] [] false)
      (.seq (.seq (.region [
  ⟨some 38, .fa 0 (.t 5), none, []⟩,
  ⟨some 39, .load none (.t 38), none, []⟩,
  ⟨some 40, .call false [] 97 [(.t 39)], none, []⟩,
  ⟨some 41, .bin .int .neq (.t 40) (.c (.int .i64 0)), none, []⟩] [] false)
      (.cond (.t 41)
        (.seq (.region [
  ⟨some 42, .mov (.t 4), none, []⟩,
  ⟨some 2, .mov (.t 42), none, []⟩,
  ⟨some 3, .mov (.c (.int .i64 2)), none, []⟩] [] false)
        (.ret))
        (.skip)))
      (.seq (.seq (.region [
  ⟨some 43, .load (some 3) (.t 1), none, []⟩,
  ⟨some 44, .fa 0 (.t 5), none, []⟩,
  ⟨some 45, .load none (.t 44), none, []⟩,
  ⟨some 46, .call false [] 96 [(.t 43), (.t 45)], none, []⟩,
  ⟨some 47, .mov (.t 4), none, []⟩,
  ⟨some 48, .bin .int .lss (.t 46) (.t 47), none, []⟩] [] false)
      (.cond (.t 48)
        (.seq (.region [
  ⟨some 49, .mov (.t 4), none, []⟩,
  ⟨some 2, .mov (.t 49), none, []⟩,
  ⟨some 3, .mov (.c (.int .i64 7)), none, []⟩] [] false)
        (.ret))
        (.skip)))
      (.seq (.seq (.regionJ ⟨[.slot 58 .bool], [50, 51, 52, 53, 54, 55, 56, 57], [], []⟩ [
  ⟨some 50, .fa 1 (.t 5), none, []⟩,
  ⟨some 51, .load none (.t 50), none, []⟩,
  ⟨some 52, .bin .int .lss (.t 51) (.c (.int .i64 (-1))), none, []⟩,
  ⟨some 53, .mov (.t 52), none, []⟩,
  ⟨some 54, .fa 1 (.t 5), (some (53, false)), []⟩,
  ⟨some 55, .load none (.t 54), (some (53, false)), []⟩,
  ⟨some 56, .mov (.t 4), (some (53, false)), []⟩,
  ⟨some 57, .bin .int .geq (.t 55) (.t 56), (some (53, false)), []⟩,
  ⟨some 58, .pick (.t 53) (.c (.bool true)) (.t 57), none, []⟩] [] false)
      (.cond (.t 58)
        (.seq (.region [
  ⟨some 59, .mov (.t 4), none, []⟩,
  ⟨some 2, .mov (.t 59), none, []⟩,
  ⟨some 3, .mov (.c (.int .i64 1)), none, []⟩] [] false)
        (.ret))
        (.skip)))
      (.seq (.seq (.regionJ ⟨[.slot 72 .bool], [60, 61, 62, 63, 64, 65, 66, 67, 68, 69, 70, 71], [], []⟩ [
  ⟨some 60, .fa 1 (.t 5), none, []⟩,
  ⟨some 61, .load none (.t 60), none, []⟩,
  ⟨some 62, .bin .int .geq (.t 61) (.c (.int .i64 0)), none, []⟩,
  ⟨some 63, .mov (.t 62), none, []⟩,
  ⟨some 64, .fa 2 (.t 1), (some (63, true)), []⟩,
  ⟨some 65, .load none (.t 64), (some (63, true)), []⟩,
  ⟨some 66, .fa 1 (.t 5), (some (63, true)), []⟩,
  ⟨some 67, .load none (.t 66), (some (63, true)), []⟩,
  ⟨some 68, .ia 4 (.t 65) (.t 67), (some (63, true)), []⟩,
  ⟨some 69, .fa 3 (.t 68), (some (63, true)), []⟩,
  ⟨some 70, .load none (.t 69), (some (63, true)), []⟩,
  ⟨some 71, .bin .str .neq (.t 70) (.c (.string ⟨#[]⟩)), (some (63, true)), []⟩,
  ⟨some 72, .pick (.t 63) (.t 71) (.c (.bool false)), none, []⟩] [] false)
      (.cond (.t 72)
        (.seq (.region [
  ⟨some 73, .mov (.t 4), none, []⟩,
  ⟨some 2, .mov (.t 73), none, []⟩,
  ⟨some 3, .mov (.c (.int .i64 6)), none, []⟩] [] false)
        (.ret))
        (.skip)))
      (.seq (.seq (.regionJ ⟨[.slot 81 .bool], [74, 75, 76, 77, 78, 79, 80], [], []⟩ [
  ⟨some 74, .fa 2 (.t 5), none, []⟩,
  ⟨some 75, .load none (.t 74), none, []⟩,
  ⟨some 76, .bin .int .lss (.t 75) (.c (.int .i64 (-1))), none, []⟩,
  ⟨some 77, .mov (.t 76), none, []⟩,
  ⟨some 78, .fa 2 (.t 5), (some (77, false)), []⟩,
  ⟨some 79, .load none (.t 78), (some (77, false)), []⟩,
  ⟨some 80, .bin .int .gtr (.t 79) (.c (.int .i64 1)), (some (77, false)), []⟩,
  ⟨some 81, .pick (.t 77) (.c (.bool true)) (.t 80), none, []⟩] [] false)
      (.cond (.t 81)
        (.seq (.region [
  ⟨some 82, .mov (.t 4), none, []⟩,
  ⟨some 2, .mov (.t 82), none, []⟩,
  ⟨some 3, .mov (.c (.int .i64 1)), none, []⟩] [] false)
        (.ret))
        (.skip)))
      (.seq (.region [
  ⟨some 83, .fa 3 (.t 5), none, []⟩,
  ⟨some 84, .load none (.t 83), none, []⟩,
  ⟨some 85, .len true (.t 84), none, []⟩,
  ⟨some 86, .bin .int .gtr (.t 85) (.c (.int .i64 100)), none, []⟩] [] false)
      (.cond (.t 86)
        (.seq (.region [
  ⟨some 87, .mov (.t 4), none, []⟩,
  ⟨some 2, .mov (.t 87), none, []⟩,
  ⟨some 3, .mov (.c (.int .i64 4)), none, []⟩] [] false)
        (.ret))
        (.skip))))))))))
    (.region [
  ⟨some 31, .mov (.t 4), none, []⟩,
  ⟨some 32, .bin .int .add (.t 31) (.c (.int .i64 1)), none, []⟩,
  ⟨some 4, .mov (.t 32), none, []⟩] [] false)))))
  (.seq (.region [
  ⟨some 2, .mov (.c (.int .i64 (-1))), none, []⟩,
  ⟨some 3, .mov (.c (.int .i64 0)), none, []⟩] [] false)
  (.ret)))))))
def tf95 : TFunc := { np := 1, nt := 88, res := [.tmp 2, .tmp 3], own := false, body := tc95 }
noncomputable def S95_L1 (F96 : Dim → ByteArray → (Option Int)) (F97 : ByteArray → (Option Int)) (a0 : Dim) (x3 : Int) : Option (LR Int (Int × Int)) :=
  br (decide (x3 < ((List.length (Dim.members a0) : Nat) : Int)))
  (bno (lookI (Dim.members a0) x3) fun y4 =>
  bno (F97 (Member.name y4)) fun y5 =>
  br (decide (¬ y5 = (0 : Int)))
  (finO (some (x3, (2 : Int))))
  (bno (F96 a0 (Member.name y4)) fun y6 =>
  br (decide (y6 < x3))
  (finO (some (x3, (7 : Int))))
  (jn (σ := Bool) (α := (LR Int (Int × Int))) (br (decide ((Member.parent y4) < (-1 : Int)))
  (inlO (some true))
  (inlO (some (decide (x3 ≤ (Member.parent y4)))))) fun x7 =>
  br x7
  (finO (some (x3, (1 : Int))))
  (jn (σ := Bool) (α := (LR Int (Int × Int))) (br (decide ((0 : Int) ≤ (Member.parent y4)))
  (bno (lookI (Dim.members a0) (Member.parent y4)) fun y8 =>
  inlO (some (decide (¬ (Member.formula y8) = (⟨#[]⟩ : ByteArray)))))
  (inlO (some false))) fun x9 =>
  br x9
  (finO (some (x3, (6 : Int))))
  (jn (σ := Bool) (α := (LR Int (Int × Int))) (br (decide ((Member.sign y4) < (-1 : Int)))
  (inlO (some true))
  (inlO (some (decide ((1 : Int) < (Member.sign y4)))))) fun x10 =>
  br x10
  (finO (some (x3, (1 : Int))))
  (br (decide ((100 : Int) < ((ByteArray.size (Member.formula y4) : Nat) : Int)))
  (finO (some (x3, (4 : Int))))
  (nxO (some (wi (x3 + (1 : Int)))))))))))
  (dnO (some x3))
noncomputable def S95 (F96 : Dim → ByteArray → (Option Int)) (F97 : ByteArray → (Option Int)) (a0 : Dim) : Option (Int × Int) :=
  bno (F97 (Dim.name a0)) fun y1 =>
  br (decide (¬ y1 = (0 : Int)))
  (some ((-1 : Int), (2 : Int)))
  (jn (σ := Bool) (α := (Int × Int)) (br (decide ((Dim.solve a0) < (0 : Int)))
  (inlO (some true))
  (inlO (some (decide ((9 : Int) < (Dim.solve a0)))))) fun x2 =>
  br x2
  (some ((-1 : Int), (1 : Int)))
  (br (decide ((12 : Int) < ((List.length (Dim.members a0) : Nat) : Int)))
  (some ((-1 : Int), (4 : Int)))
  (br (decide (((List.length (Dim.members a0) : Nat) : Int) = (0 : Int)))
  (some ((-1 : Int), (5 : Int)))
  (lp (S95_L1 F96 F97 a0) (0 : Int) fun x11 =>
  some ((-1 : Int), (0 : Int))))))
theorem s95 (F96 : Dim → ByteArray → (Option Int)) (F97 : ByteArray → (Option Int)) (a0 : Dim) : tf95.run [⟨96, [(.st .dim), .str], .int, fun x => F96 x.1 x.2, false, []⟩,
  ⟨97, [.str], .int, fun x => F97 x, false, []⟩] [(.st .dim)] (.tp [.int, .int]) a0 = S95 F96 F97 a0 := by kernel_rfl
noncomputable def P95 (a0 : Dim) : Option (Int × Int) := S95 P96 P97 a0
noncomputable def k95 : CSpec := ⟨95, [(.st .dim)], (.tp [.int, .int]), fun x => P95 x, false, []⟩
theorem r95 {S : Seat} (h : Ok1 S 95 tf95) (h96 : Rt S k96) (h97 : Rt S k97) : Rt S k95 := fun x y hy =>
  Ok1.sound h (C := [k96, k97]) (CSound.cons h96 (CSound.cons h97 CSound.nil)) rfl rfl rfl ((s95 P96 P97 x).trans hy) rfl

/- tallyhall/tallyref1.Outline -/
def tc94 : TCode :=
  .seq (.region [
  ⟨some 1, .box (.t 0), none, []⟩,
  ⟨some 2, .mov (.c (.int .i64 0)), none, []⟩,
  ⟨some 3, .mov (.c (.int .i64 0)), none, []⟩,
  ⟨some 4, .mov (.c (.int .i64 0)), none, []⟩] [] false)
  (.seq (.seq (.region [
  ⟨some 9, .fa 0 (.t 1), none, []⟩,
  ⟨some 10, .load none (.t 9), none, []⟩,
  ⟨some 11, .len false (.t 10), none, []⟩,
  ⟨some 12, .bin .int .gtr (.t 11) (.c (.int .i64 4)), none, []⟩] [] false)
  (.cond (.t 12)
    (.seq (.region [
  ⟨some 2, .mov (.c (.int .i64 (-1))), none, []⟩,
  ⟨some 3, .mov (.c (.int .i64 (-1))), none, []⟩,
  ⟨some 4, .mov (.c (.int .i64 4)), none, []⟩] [] false)
    (.ret))
    (.skip)))
  (.seq (.seq (.region [
  ⟨some 13, .fa 0 (.t 1), none, []⟩,
  ⟨some 14, .load none (.t 13), none, []⟩,
  ⟨some 15, .len false (.t 14), none, []⟩,
  ⟨some 16, .bin .int .eql (.t 15) (.c (.int .i64 0)), none, []⟩] [] false)
  (.cond (.t 16)
    (.seq (.region [
  ⟨some 2, .mov (.c (.int .i64 (-1))), none, []⟩,
  ⟨some 3, .mov (.c (.int .i64 (-1))), none, []⟩,
  ⟨some 4, .mov (.c (.int .i64 5)), none, []⟩] [] false)
    (.ret))
    (.skip)))
  (.seq (.seq (.region [
  ⟨some 5, .mov (.c (.int .i64 0)), none, []⟩] [] false)
  (.loop ⟨[.slot 5 .int], [6, 7, 8, 17, 18, 19, 20, 21, 22, 23, 24, 25, 26, 27, 28, 29, 30, 31, 32, 33, 34, 35, 36, 37, 38, 39, 40, 41, 42, 43, 44, 45, 46, 47, 48, 49, 50, 51, 52, 53, 54, 55, 56], [], []⟩ 0 (.seq (.seq (.region [
  ⟨some 17, .mov (.t 5), none, []⟩,
  ⟨some 18, .fa 0 (.t 1), none, []⟩,
  ⟨some 19, .load none (.t 18), none, []⟩,
  ⟨some 20, .len false (.t 19), none, []⟩,
  ⟨some 21, .bin .int .lss (.t 17) (.t 20), none, []⟩] [] false)
    (.cond (.t 21)
      (.skip)
      (.exit 0)))
    (.seq (.block 1 (.seq (.region [
  ⟨some 25, .fa 0 (.t 1), none, []⟩,
  ⟨some 26, .load none (.t 25), none, []⟩,
  ⟨some 27, .mov (.t 5), none, []⟩,
  ⟨some 28, .ia 3 (.t 26) (.t 27), none, []⟩,
  ⟨some 29, .load (some 3) (.t 28), none, []⟩,
  ⟨some 30, .call false [] 95 [(.t 29)], none, []⟩,
  ⟨some 24, .mov (.t 30), none, []⟩,
  ⟨some 31, .ext (.t 24) 0, none, []⟩,
  ⟨some 32, .ext (.t 24) 1, none, []⟩,
  ⟨some 6, .mov (.t 31), none, []⟩,
  ⟨some 7, .mov (.t 32), none, []⟩] [] false)
      (.seq (.seq (.region [
  ⟨some 8, .mov (.c (.int .i64 0)), none, []⟩] [] false)
      (.loop ⟨[.slot 7 .int, .slot 8 .int], [33, 34, 35, 36, 37, 38, 39, 40, 41, 42, 43, 44, 45, 46, 47, 48, 49, 50, 51, 52, 53, 54], [], []⟩ 2 (.seq (.seq (.regionJ ⟨[.slot 39 .bool], [33, 34, 35, 36, 37, 38], [], []⟩ [
  ⟨some 33, .mov (.t 8), none, []⟩,
  ⟨some 34, .mov (.t 5), none, []⟩,
  ⟨some 35, .bin .int .lss (.t 33) (.t 34), none, []⟩,
  ⟨some 36, .mov (.t 35), none, []⟩,
  ⟨some 37, .mov (.t 7), (some (36, true)), []⟩,
  ⟨some 38, .bin .int .eql (.t 37) (.c (.int .i64 0)), (some (36, true)), []⟩,
  ⟨some 39, .pick (.t 36) (.t 38) (.c (.bool false)), none, []⟩] [] false)
        (.cond (.t 39)
          (.skip)
          (.exit 2)))
        (.seq (.block 3 (.seq (.region [
  ⟨some 42, .fa 0 (.t 1), none, []⟩,
  ⟨some 43, .load none (.t 42), none, [0]⟩,
  ⟨some 44, .mov (.t 8), none, []⟩,
  ⟨some 45, .ia 3 (.t 43) (.t 44), none, [1, 2]⟩,
  ⟨some 46, .fa 0 (.t 45), none, [3]⟩,
  ⟨some 47, .load none (.t 46), none, [4]⟩,
  ⟨some 48, .fa 0 (.t 1), none, []⟩,
  ⟨some 49, .load none (.t 48), none, [6]⟩,
  ⟨some 50, .mov (.t 5), none, []⟩,
  ⟨some 51, .ia 3 (.t 49) (.t 50), none, [7, 8]⟩,
  ⟨some 52, .fa 0 (.t 51), none, [9]⟩,
  ⟨some 53, .load none (.t 52), none, [10]⟩,
  ⟨some 54, .bin .str .eql (.t 47) (.t 53), none, [5, 11]⟩] [] true)
          (.condJ ⟨[.slot 7 .int], [], [], []⟩ (.t 54)
            (.region [
  ⟨some 7, .mov (.c (.int .i64 7)), none, []⟩] [] false)
            (.skip))))
        (.region [
  ⟨some 40, .mov (.t 8), none, []⟩,
  ⟨some 41, .bin .int .add (.t 40) (.c (.int .i64 1)), none, []⟩,
  ⟨some 8, .mov (.t 41), none, []⟩] [] false)))))
      (.seq (.region [
  ⟨some 55, .mov (.t 7), none, []⟩,
  ⟨some 56, .bin .int .neq (.t 55) (.c (.int .i64 0)), none, []⟩] [] false)
      (.cond (.t 56)
        (.seq (.region [
  ⟨some 57, .mov (.t 5), none, []⟩,
  ⟨some 58, .mov (.t 6), none, []⟩,
  ⟨some 59, .mov (.t 7), none, []⟩,
  ⟨some 2, .mov (.t 57), none, []⟩,
  ⟨some 3, .mov (.t 58), none, []⟩,
  ⟨some 4, .mov (.t 59), none, []⟩] [] false)
        (.ret))
        (.skip))))))
    (.region [
  ⟨some 22, .mov (.t 5), none, []⟩,
  ⟨some 23, .bin .int .add (.t 22) (.c (.int .i64 1)), none, []⟩,
  ⟨some 5, .mov (.t 23), none, []⟩] [] false)))))
  (.seq (.seq (.region [
  ⟨some 60, .load (some 1) (.t 1), none, []⟩,
  ⟨some 61, .call false [] 106 [(.t 60)], none, []⟩,
  ⟨some 62, .bin .int .gtr (.t 61) (.c (.int .i64 3000)), none, []⟩] [] false)
  (.cond (.t 62)
    (.seq (.region [
  ⟨some 2, .mov (.c (.int .i64 (-1))), none, []⟩,
  ⟨some 3, .mov (.c (.int .i64 (-1))), none, []⟩,
  ⟨some 4, .mov (.c (.int .i64 4)), none, []⟩] [] false)
    (.ret))
    (.skip)))
  (.seq (.region [
  ⟨some 2, .mov (.c (.int .i64 (-1))), none, []⟩,
  ⟨some 3, .mov (.c (.int .i64 (-1))), none, []⟩,
  ⟨some 4, .mov (.c (.int .i64 0)), none, []⟩] [] false)
  (.ret))))))
def tf94 : TFunc := { np := 1, nt := 63, res := [.tmp 2, .tmp 3, .tmp 4], own := false, body := tc94 }
noncomputable def S94_L1 (a0 : (List Dim)) (x1 : Int) (x4 : (Int × Int)) : Option (LR (Int × Int) (LR Int (Int × Int × Int))) :=
  jn (σ := Bool) (α := (LR (Int × Int) (LR Int (Int × Int × Int)))) (br (decide (x4.2 < x1))
  (inlO (some (decide (x4.1 = (0 : Int)))))
  (inlO (some false))) fun x5 =>
  br x5
  (bno (lookI a0 x4.2) fun y6 =>
  bno (lookI a0 x1) fun y7 =>
  jn (σ := Int) (α := (LR (Int × Int) (LR Int (Int × Int × Int)))) (br (decide ((Dim.name y6) = (Dim.name y7)))
  (inlO (some (7 : Int)))
  (inlO (some x4.1))) fun x8 =>
  nxO (some (x8, wi (x4.2 + (1 : Int)))))
  (dnO (some (x4.1, x4.2)))
noncomputable def S94_L2 (F95 : Dim → (Option (Int × Int))) (a0 : (List Dim)) (x1 : Int) : Option (LR Int (Int × Int × Int)) :=
  br (decide (x1 < ((List.length a0 : Nat) : Int)))
  (bno (lookI a0 x1) fun y2 =>
  bno (F95 y2) fun y3 =>
  lp (S94_L1 a0 x1) (y3.2, (0 : Int)) fun x9 =>
  br (decide (¬ x9.1 = (0 : Int)))
  (finO (some (x1, y3.1, x9.1)))
  (nxO (some (wi (x1 + (1 : Int))))))
  (dnO (some x1))
noncomputable def S94 (F106 : (List Dim) → (Option Int)) (F95 : Dim → (Option (Int × Int))) (a0 : (List Dim)) : Option (Int × Int × Int) :=
  br (decide ((4 : Int) < ((List.length a0 : Nat) : Int)))
  (some ((-1 : Int), (-1 : Int), (4 : Int)))
  (br (decide (((List.length a0 : Nat) : Int) = (0 : Int)))
  (some ((-1 : Int), (-1 : Int), (5 : Int)))
  (lp (S94_L2 F95 a0) (0 : Int) fun x10 =>
  bno (F106 a0) fun y11 =>
  br (decide ((3000 : Int) < y11))
  (some ((-1 : Int), (-1 : Int), (4 : Int)))
  (some ((-1 : Int), (-1 : Int), (0 : Int)))))
theorem s94 (F106 : (List Dim) → (Option Int)) (F95 : Dim → (Option (Int × Int))) (a0 : (List Dim)) : tf94.run [⟨106, [(.st .outl)], .int, fun x => F106 x, false, []⟩,
  ⟨95, [(.st .dim)], (.tp [.int, .int]), fun x => F95 x, false, []⟩] [(.st .outl)] (.tp [.int, .int, .int]) a0 = S94 F106 F95 a0 := by kernel_rfl
noncomputable def P94 (a0 : (List Dim)) : Option (Int × Int × Int) := S94 P106 P95 a0
noncomputable def k94 : CSpec := ⟨94, [(.st .outl)], (.tp [.int, .int, .int]), fun x => P94 x, false, []⟩
theorem r94 {S : Seat} (h : Ok1 S 94 tf94) (h106 : Rt S k106) (h95 : Rt S k95) : Rt S k94 := fun x y hy =>
  Ok1.sound h (C := [k106, k95]) (CSound.cons h106 (CSound.cons h95 CSound.nil)) rfl rfl rfl ((s94 P106 P95 x).trans hy) rfl

/- tallyhall/tallyref1.Parts -/
def tc100 : TCode :=
  .seq (.region [
  ⟨some 2, .box (.t 0), none, []⟩,
  ⟨some 4, .mov (.c (.slice none 0 0)), none, []⟩] [] false)
  (.seq (.region [
  ⟨some 5, .mov (.c (.slice none 0 0)), none, []⟩] [] false)
  (.seq (.seq (.region [
  ⟨some 6, .mov (.c (.int .i64 0)), none, []⟩] [] false)
  (.loop ⟨[.row 5 25 .int, .slot 6 .int], [7, 8, 9, 10, 11, 12, 13, 14, 15, 16, 17, 18, 19, 20, 21, 22, 23, 24, 25], [24], []⟩ 0 (.seq (.seq (.region [
  ⟨some 7, .mov (.t 6), none, []⟩,
  ⟨some 8, .fa 2 (.t 2), none, []⟩,
  ⟨some 9, .load none (.t 8), none, []⟩,
  ⟨some 10, .len false (.t 9), none, []⟩,
  ⟨some 11, .bin .int .lss (.t 7) (.t 10), none, []⟩] [] false)
    (.cond (.t 11)
      (.skip)
      (.exit 0)))
    (.seq (.block 1 (.seq (.region [
  ⟨some 14, .fa 2 (.t 2), none, []⟩,
  ⟨some 15, .load none (.t 14), none, []⟩,
  ⟨some 16, .mov (.t 6), none, []⟩,
  ⟨some 17, .ia 4 (.t 15) (.t 16), none, []⟩,
  ⟨some 18, .fa 1 (.t 17), none, []⟩,
  ⟨some 19, .load none (.t 18), none, []⟩,
  ⟨some 20, .mov (.t 1), none, []⟩,
  ⟨some 21, .bin .int .eql (.t 19) (.t 20), none, []⟩] [] false)
      (.condJ ⟨[.row 5 25 .int], [22, 23, 24, 25], [24], []⟩ (.t 21)
        (.region [
  ⟨some 22, .mov (.t 5), none, []⟩,
  ⟨some 23, .mov (.t 6), none, []⟩,
  ⟨some 24, .bslice false 1 [.int .i64 0] 1 [(0, (.t 23))], none, []⟩,
  ⟨some 25, .app 1 (.t 22) (.t 24), none, []⟩,
  ⟨some 5, .mov (.t 25), none, []⟩] [] false)
        (.skip))))
    (.region [
  ⟨some 12, .mov (.t 6), none, []⟩,
  ⟨some 13, .bin .int .add (.t 12) (.c (.int .i64 1)), none, []⟩,
  ⟨some 6, .mov (.t 13), none, []⟩] [] false)))))
  (.seq (.region [
  ⟨some 26, .mov (.t 5), none, []⟩,
  ⟨some 4, .mov (.t 26), none, []⟩] [] false)
  (.ret))))
def tf100 : TFunc := { np := 2, nt := 27, res := [.tmp 4], own := false, body := tc100 }
noncomputable def S100_L1 (a0 : Dim) (a1 : Int) (x1 : ((List Int) × Int)) : Option (LR ((List Int) × Int) (List Int)) :=
  br (decide (x1.2 < ((List.length (Dim.members a0) : Nat) : Int)))
  (bno (lookI (Dim.members a0) x1.2) fun y2 =>
  jn (σ := (List Int)) (α := (LR ((List Int) × Int) (List Int))) (br (decide ((Member.parent y2) = a1))
  (ck (decide (List.length x1.1 + List.length ([x1.2] : List Int) ≤ roomA)) <|
  inlO (some (x1.1 ++ ([x1.2] : List Int))))
  (inlO (some x1.1))) fun x3 =>
  nxO (some (x3, wi (x1.2 + (1 : Int)))))
  (dnO (some (x1.1, x1.2)))
noncomputable def S100 (a0 : Dim) (a1 : Int) : Option (List Int) :=
  lp (S100_L1 a0 a1) (([] : List Int), (0 : Int)) fun x4 =>
  some x4.1
theorem s100 (a0 : Dim) (a1 : Int) : tf100.run [] [(.st .dim), .int] (.sl .int) (a0, a1) = S100 a0 a1 := by kernel_rfl
noncomputable def P100 (a0 : Dim) (a1 : Int) : Option (List Int) := S100 a0 a1
noncomputable def k100 : CSpec := ⟨100, [(.st .dim), .int], (.sl .int), fun x => P100 x.1 x.2, false, []⟩
theorem r100 {S : Seat} (h : Ok1 S 100 tf100) : Rt S k100 := fun x y hy =>
  Ok1.sound h (C := []) CSound.nil rfl rfl rfl ((s100 x.1 x.2).trans hy) rfl

/- tallyhall/tallyref1.Leaf -/
def tc102 : TCode :=
  .seq (.region [
  ⟨some 2, .box (.t 0), none, []⟩,
  ⟨some 4, .mov (.c (.bool false)), none, []⟩] [] false)
  (.seq (.regionJ ⟨[.slot 4 .bool], [5, 6, 7, 8, 9, 10, 11, 12, 13, 14, 15, 16, 17, 18], [], []⟩ [
  ⟨some 5, .fa 2 (.t 2), none, []⟩,
  ⟨some 6, .load none (.t 5), none, []⟩,
  ⟨some 7, .mov (.t 1), none, []⟩,
  ⟨some 8, .ia 4 (.t 6) (.t 7), none, []⟩,
  ⟨some 9, .fa 3 (.t 8), none, []⟩,
  ⟨some 10, .load none (.t 9), none, []⟩,
  ⟨some 11, .bin .str .eql (.t 10) (.c (.string ⟨#[]⟩)), none, []⟩,
  ⟨some 12, .mov (.t 11), none, []⟩,
  ⟨some 13, .load (some 3) (.t 2), (some (12, true)), []⟩,
  ⟨some 14, .mov (.t 1), (some (12, true)), []⟩,
  ⟨some 15, .call true [] 100 [(.t 13), (.t 14)], (some (12, true)), []⟩,
  ⟨some 16, .len false (.t 15), (some (12, true)), []⟩,
  ⟨some 17, .bin .int .eql (.t 16) (.c (.int .i64 0)), (some (12, true)), []⟩,
  ⟨some 18, .pick (.t 12) (.t 17) (.c (.bool false)), none, []⟩,
  ⟨some 4, .mov (.t 18), none, []⟩] [] false)
  (.ret))
def tf102 : TFunc := { np := 2, nt := 19, res := [.tmp 4], own := false, body := tc102 }
noncomputable def S102 (F100 : Dim → Int → (Option (List Int))) (a0 : Dim) (a1 : Int) : Option Bool :=
  jn (σ := Bool) (α := Bool) (bno (lookI (Dim.members a0) a1) fun y1 =>
  br (decide ((Member.formula y1) = (⟨#[]⟩ : ByteArray)))
  (bno (F100 a0 a1) fun y2 =>
  inlO (some (decide (((List.length y2 : Nat) : Int) = (0 : Int)))))
  (inlO (some false))) fun x3 =>
  some x3
theorem s102 (F100 : Dim → Int → (Option (List Int))) (a0 : Dim) (a1 : Int) : tf102.run [⟨100, [(.st .dim), .int], (.sl .int), fun x => F100 x.1 x.2, false, []⟩] [(.st .dim), .int] .bool (a0, a1) = S102 F100 a0 a1 := by kernel_rfl
noncomputable def P102 (a0 : Dim) (a1 : Int) : Option Bool := S102 P100 a0 a1
noncomputable def k102 : CSpec := ⟨102, [(.st .dim), .int], .bool, fun x => P102 x.1 x.2, false, []⟩
theorem r102 {S : Seat} (h : Ok1 S 102 tf102) (h100 : Rt S k100) : Rt S k102 := fun x y hy =>
  Ok1.sound h (C := [k100]) (CSound.cons h100 CSound.nil) rfl rfl rfl ((s102 P100 x.1 x.2).trans hy) rfl

/- tallyhall/tallyref1.Weight -/
/- tallyhall/tallyref1.Leafs -/
end Ab
end

section
namespace Ab
open Go
set_option linter.unusedVariables false
set_option maxRecDepth 100000

/- tallyhall/tallyref1.Place -/
def tc123 : TCode :=
  .seq (.region [
  ⟨some 2, .box (.t 0), none, []⟩,
  ⟨some 4, .mov (.c (.int .i64 0)), none, []⟩] [] false)
  (.seq (.seq (.region [
  ⟨some 6, .mov (.t 1), none, []⟩,
  ⟨some 7, .len false (.t 6), none, []⟩,
  ⟨some 8, .fa 0 (.t 2), none, []⟩,
  ⟨some 9, .load none (.t 8), none, []⟩,
  ⟨some 10, .len false (.t 9), none, []⟩,
  ⟨some 11, .bin .int .neq (.t 7) (.t 10), none, []⟩] [] false)
  (.cond (.t 11)
    (.seq (.region [
  ⟨some 4, .mov (.c (.int .i64 3)), none, []⟩] [] false)
    (.ret))
    (.skip)))
  (.seq (.seq (.region [
  ⟨some 5, .mov (.c (.int .i64 0)), none, []⟩] [] false)
  (.loop ⟨[.slot 5 .int], [12, 13, 14, 15, 16, 17, 18, 19, 20, 21, 22, 23, 24, 25, 26, 27, 28, 29, 30, 31, 32, 33, 34, 35, 36], [], []⟩ 0 (.seq (.seq (.region [
  ⟨some 12, .mov (.t 5), none, []⟩,
  ⟨some 13, .mov (.t 1), none, []⟩,
  ⟨some 14, .len false (.t 13), none, []⟩,
  ⟨some 15, .bin .int .lss (.t 12) (.t 14), none, []⟩] [] false)
    (.cond (.t 15)
      (.skip)
      (.exit 0)))
    (.seq (.block 1 (.seq (.regionJ ⟨[.slot 36 .bool], [18, 19, 20, 21, 22, 23, 24, 25, 26, 27, 28, 29, 30, 31, 32, 33, 34, 35], [], []⟩ [
  ⟨some 18, .mov (.t 1), none, []⟩,
  ⟨some 19, .mov (.t 5), none, []⟩,
  ⟨some 20, .ia 1 (.t 18) (.t 19), none, [0, 1]⟩,
  ⟨some 21, .load none (.t 20), none, [2]⟩,
  ⟨some 22, .bin .int .lss (.t 21) (.c (.int .i64 0)), none, [3]⟩,
  ⟨some 23, .mov (.t 22), none, [4]⟩,
  ⟨some 24, .mov (.t 1), (some (23, false)), [5]⟩,
  ⟨some 25, .mov (.t 5), (some (23, false)), [5]⟩,
  ⟨some 26, .ia 1 (.t 24) (.t 25), (some (23, false)), [6, 7, 5]⟩,
  ⟨some 27, .load none (.t 26), (some (23, false)), [8, 5]⟩,
  ⟨some 28, .fa 0 (.t 2), (some (23, false)), [5]⟩,
  ⟨some 29, .load none (.t 28), (some (23, false)), [10, 5]⟩,
  ⟨some 30, .mov (.t 5), (some (23, false)), [5]⟩,
  ⟨some 31, .ia 3 (.t 29) (.t 30), (some (23, false)), [11, 12, 5]⟩,
  ⟨some 32, .fa 2 (.t 31), (some (23, false)), [13, 5]⟩,
  ⟨some 33, .load none (.t 32), (some (23, false)), [14, 5]⟩,
  ⟨some 34, .len false (.t 33), (some (23, false)), [15, 5]⟩,
  ⟨some 35, .bin .int .geq (.t 27) (.t 34), (some (23, false)), [9, 16, 5]⟩,
  ⟨some 36, .pick (.t 23) (.c (.bool true)) (.t 35), none, [5, 17]⟩] [] true)
      (.cond (.t 36)
        (.seq (.region [
  ⟨some 4, .mov (.c (.int .i64 1)), none, []⟩] [] false)
        (.ret))
        (.skip))))
    (.region [
  ⟨some 16, .mov (.t 5), none, []⟩,
  ⟨some 17, .bin .int .add (.t 16) (.c (.int .i64 1)), none, []⟩,
  ⟨some 5, .mov (.t 17), none, []⟩] [] false)))))
  (.seq (.region [
  ⟨some 4, .mov (.c (.int .i64 0)), none, []⟩] [] false)
  (.ret))))
def tf123 : TFunc := { np := 2, nt := 37, res := [.tmp 4], own := false, body := tc123 }
noncomputable def S123_L1 (a0 : (List Dim)) (a1 : (List Int)) (x1 : Int) : Option (LR Int Int) :=
  br (decide (x1 < ((List.length a1 : Nat) : Int)))
  (jn (σ := Bool) (α := (LR Int Int)) (bno (lookI a1 x1) fun y2 =>
  br (decide (y2 < (0 : Int)))
  (inlO (some true))
  (bno (lookI a1 x1) fun y3 =>
  bno (lookI a0 x1) fun y4 =>
  inlO (some (decide (((List.length (Dim.members y4) : Nat) : Int) ≤ y3))))) fun x5 =>
  br x5
  (finO (some (1 : Int)))
  (nxO (some (wi (x1 + (1 : Int))))))
  (dnO (some x1))
noncomputable def S123 (a0 : (List Dim)) (a1 : (List Int)) : Option Int :=
  br (decide (¬ ((List.length a1 : Nat) : Int) = ((List.length a0 : Nat) : Int)))
  (some (3 : Int))
  (lp (S123_L1 a0 a1) (0 : Int) fun x6 =>
  some (0 : Int))
theorem s123 (a0 : (List Dim)) (a1 : (List Int)) : tf123.run [] [(.st .outl), (.sl .int)] .int (a0, a1) = S123 a0 a1 := by kernel_rfl
noncomputable def P123 (a0 : (List Dim)) (a1 : (List Int)) : Option Int := S123 a0 a1
noncomputable def k123 : CSpec := ⟨123, [(.st .outl), (.sl .int)], .int, fun x => P123 x.1 x.2, false, []⟩
theorem r123 {S : Seat} (h : Ok1 S 123 tf123) : Rt S k123 := fun x y hy =>
  Ok1.sound h (C := []) CSound.nil rfl rfl rfl ((s123 x.1 x.2).trans hy) rfl

/- tallyhall/tallyref1.Right -/
def tc125 : TCode :=
  .seq (.region [
  ⟨some 1, .box (.t 0), none, []⟩,
  ⟨some 2, .mov (.c (.int .i64 0)), none, []⟩] [] false)
  (.seq (.region [
  ⟨some 7, .load (some 1) (.t 1), none, []⟩,
  ⟨some 8, .call false [] 94 [(.t 7)], none, []⟩,
  ⟨some 6, .mov (.t 8), none, []⟩,
  ⟨some 9, .ext (.t 6) 0, none, []⟩,
  ⟨some 10, .ext (.t 6) 1, none, []⟩,
  ⟨some 11, .ext (.t 6) 2, none, []⟩,
  ⟨some 3, .mov (.t 9), none, []⟩,
  ⟨some 4, .mov (.t 10), none, []⟩,
  ⟨some 5, .mov (.t 11), none, []⟩] [] false)
  (.seq (.region [
  ⟨some 12, .mov (.t 5), none, []⟩,
  ⟨some 2, .mov (.t 12), none, []⟩] [] false)
  (.ret)))
def tf125 : TFunc := { np := 1, nt := 13, res := [.tmp 2], own := false, body := tc125 }
noncomputable def S125 (F94 : (List Dim) → (Option (Int × Int × Int))) (a0 : (List Dim)) : Option Int :=
  bno (F94 a0) fun y1 =>
  some y1.2.2
theorem s125 (F94 : (List Dim) → (Option (Int × Int × Int))) (a0 : (List Dim)) : tf125.run [⟨94, [(.st .outl)], (.tp [.int, .int, .int]), fun x => F94 x, false, []⟩] [(.st .outl)] .int a0 = S125 F94 a0 := by kernel_rfl
noncomputable def P125 (a0 : (List Dim)) : Option Int := S125 P94 a0
noncomputable def k125 : CSpec := ⟨125, [(.st .outl)], .int, fun x => P125 x, false, []⟩
theorem r125 {S : Seat} (h : Ok1 S 125 tf125) (h94 : Rt S k94) : Rt S k125 := fun x y hy =>
  Ok1.sound h (C := [k94]) (CSound.cons h94 CSound.nil) rfl rfl rfl ((s125 P94 x).trans hy) rfl

/- tallyhall/tallyref1.LeafPlace -/
def tc130 : TCode :=
  .seq (.region [
  ⟨some 2, .box (.t 0), none, []⟩,
  ⟨some 4, .mov (.c (.bool false)), none, []⟩] [] false)
  (.seq (.seq (.region [
  ⟨some 5, .mov (.c (.int .i64 0)), none, []⟩] [] false)
  (.loop ⟨[.slot 5 .int], [6, 7, 8, 9, 10, 11, 12, 13, 14, 15, 16, 17, 18, 19, 20, 21, 22, 23, 24], [], []⟩ 0 (.seq (.seq (.region [
  ⟨some 7, .mov (.t 5), none, []⟩,
  ⟨some 8, .mov (.t 1), none, []⟩,
  ⟨some 9, .len false (.t 8), none, []⟩,
  ⟨some 10, .bin .int .lss (.t 7) (.t 9), none, []⟩] [] false)
    (.cond (.t 10)
      (.skip)
      (.exit 0)))
    (.seq (.block 1 (.seq (.region [
  ⟨some 13, .fa 0 (.t 2), none, []⟩,
  ⟨some 14, .load none (.t 13), none, [0]⟩,
  ⟨some 15, .mov (.t 5), none, []⟩,
  ⟨some 16, .ia 3 (.t 14) (.t 15), none, [1, 2]⟩,
  ⟨some 17, .load (some 3) (.t 16), none, [3]⟩,
  ⟨some 18, .mov (.t 1), none, []⟩,
  ⟨some 19, .mov (.t 5), none, []⟩,
  ⟨some 20, .ia 1 (.t 18) (.t 19), none, [5, 6]⟩,
  ⟨some 21, .load none (.t 20), none, [7]⟩,
  ⟨some 22, .call false [] 102 [(.t 17), (.t 21)], none, [4, 8]⟩,
  ⟨some 6, .mov (.t 22), none, [9, 9, 0, 1, 2, 3, 4, 5, 6, 7, 8, 9]⟩] [] true)
      (.seq (.region [
  ⟨some 23, .mov (.t 6), none, []⟩,
  ⟨some 24, .un .not (.t 23), none, []⟩] [] false)
      (.cond (.t 24)
        (.seq (.region [
  ⟨some 4, .mov (.c (.bool false)), none, []⟩] [] false)
        (.ret))
        (.skip)))))
    (.region [
  ⟨some 11, .mov (.t 5), none, []⟩,
  ⟨some 12, .bin .int .add (.t 11) (.c (.int .i64 1)), none, []⟩,
  ⟨some 5, .mov (.t 12), none, []⟩] [] false)))))
  (.seq (.region [
  ⟨some 4, .mov (.c (.bool true)), none, []⟩] [] false)
  (.ret)))
def tf130 : TFunc := { np := 2, nt := 25, res := [.tmp 4], own := false, body := tc130 }
noncomputable def S130_L1 (F102 : Dim → Int → (Option Bool)) (a0 : (List Dim)) (a1 : (List Int)) (x1 : Int) : Option (LR Int Bool) :=
  br (decide (x1 < ((List.length a1 : Nat) : Int)))
  (bno (lookI a0 x1) fun y2 =>
  bno (lookI a1 x1) fun y3 =>
  bno (F102 y2 y3) fun y4 =>
  br (!y4)
  (finO (some false))
  (nxO (some (wi (x1 + (1 : Int))))))
  (dnO (some x1))
noncomputable def S130 (F102 : Dim → Int → (Option Bool)) (a0 : (List Dim)) (a1 : (List Int)) : Option Bool :=
  lp (S130_L1 F102 a0 a1) (0 : Int) fun x5 =>
  some true
theorem s130 (F102 : Dim → Int → (Option Bool)) (a0 : (List Dim)) (a1 : (List Int)) : tf130.run [⟨102, [(.st .dim), .int], .bool, fun x => F102 x.1 x.2, false, []⟩] [(.st .outl), (.sl .int)] .bool (a0, a1) = S130 F102 a0 a1 := by kernel_rfl
noncomputable def P130 (a0 : (List Dim)) (a1 : (List Int)) : Option Bool := S130 P102 a0 a1
noncomputable def k130 : CSpec := ⟨130, [(.st .outl), (.sl .int)], .bool, fun x => P130 x.1 x.2, false, []⟩
theorem r130 {S : Seat} (h : Ok1 S 130 tf130) (h102 : Rt S k102) : Rt S k130 := fun x y hy =>
  Ok1.sound h (C := [k102]) (CSound.cons h102 CSound.nil) rfl rfl rfl ((s130 P102 x.1 x.2).trans hy) rfl

/- tallyhall/tallyref1.Less -/
def tc151 : TCode :=
  .seq (.region [
  ⟨some 4, .mov (.c (.bool false)), none, []⟩] [] false)
  (.seq (.seq (.region [
  ⟨some 5, .mov (.c (.int .i64 0)), none, []⟩] [] false)
  (.loop ⟨[.slot 5 .int], [6, 7, 8, 9, 10, 11, 12, 13, 14, 15, 16, 17, 18, 19, 20, 21, 22, 23, 24, 25, 26], [], []⟩ 0 (.seq (.seq (.regionJ ⟨[.slot 15 .bool], [6, 7, 8, 9, 10, 11, 12, 13, 14], [], []⟩ [
  ⟨some 6, .mov (.t 5), none, []⟩,
  ⟨some 7, .mov (.t 0), none, []⟩,
  ⟨some 8, .len false (.t 7), none, []⟩,
  ⟨some 9, .bin .int .lss (.t 6) (.t 8), none, []⟩,
  ⟨some 10, .mov (.t 9), none, []⟩,
  ⟨some 11, .mov (.t 5), (some (10, true)), []⟩,
  ⟨some 12, .mov (.t 1), (some (10, true)), []⟩,
  ⟨some 13, .len false (.t 12), (some (10, true)), []⟩,
  ⟨some 14, .bin .int .lss (.t 11) (.t 13), (some (10, true)), []⟩,
  ⟨some 15, .pick (.t 10) (.t 14) (.c (.bool false)), none, []⟩] [] false)
    (.cond (.t 15)
      (.skip)
      (.exit 0)))
    (.seq (.block 1 (.seq (.region [
  ⟨some 18, .mov (.t 0), none, []⟩,
  ⟨some 19, .mov (.t 5), none, []⟩,
  ⟨some 20, .ia 1 (.t 18) (.t 19), none, [0, 1]⟩,
  ⟨some 21, .load none (.t 20), none, [2]⟩,
  ⟨some 22, .mov (.t 1), none, []⟩,
  ⟨some 23, .mov (.t 5), none, []⟩,
  ⟨some 24, .ia 1 (.t 22) (.t 23), none, [4, 5]⟩,
  ⟨some 25, .load none (.t 24), none, [6]⟩,
  ⟨some 26, .bin .int .neq (.t 21) (.t 25), none, [3, 7]⟩] [] true)
      (.cond (.t 26)
        (.seq (.region [
  ⟨some 27, .mov (.t 0), none, []⟩,
  ⟨some 28, .mov (.t 5), none, []⟩,
  ⟨some 29, .ia 1 (.t 27) (.t 28), none, [0, 1]⟩,
  ⟨some 30, .load none (.t 29), none, [2]⟩,
  ⟨some 31, .mov (.t 1), none, []⟩,
  ⟨some 32, .mov (.t 5), none, []⟩,
  ⟨some 33, .ia 1 (.t 31) (.t 32), none, [4, 5]⟩,
  ⟨some 34, .load none (.t 33), none, [6]⟩,
  ⟨some 35, .bin .int .lss (.t 30) (.t 34), none, [3, 7]⟩,
  ⟨some 4, .mov (.t 35), none, [8, 0, 1, 2, 3, 4, 5, 6, 7, 8]⟩] [] true)
        (.ret))
        (.skip))))
    (.region [
  ⟨some 16, .mov (.t 5), none, []⟩,
  ⟨some 17, .bin .int .add (.t 16) (.c (.int .i64 1)), none, []⟩,
  ⟨some 5, .mov (.t 17), none, []⟩] [] false)))))
  (.seq (.region [
  ⟨some 36, .mov (.t 0), none, []⟩,
  ⟨some 37, .len false (.t 36), none, []⟩,
  ⟨some 38, .mov (.t 1), none, []⟩,
  ⟨some 39, .len false (.t 38), none, []⟩,
  ⟨some 40, .bin .int .lss (.t 37) (.t 39), none, []⟩,
  ⟨some 4, .mov (.t 40), none, []⟩] [] false)
  (.ret)))
def tf151 : TFunc := { np := 2, nt := 41, res := [.tmp 4], own := false, body := tc151 }
noncomputable def S151_L1 (a0 : (List Int)) (a1 : (List Int)) (x1 : Int) : Option (LR Int Bool) :=
  jn (σ := Bool) (α := (LR Int Bool)) (br (decide (x1 < ((List.length a0 : Nat) : Int)))
  (inlO (some (decide (x1 < ((List.length a1 : Nat) : Int)))))
  (inlO (some false))) fun x2 =>
  br x2
  (bno (lookI a0 x1) fun y3 =>
  bno (lookI a1 x1) fun y4 =>
  br (decide (¬ y3 = y4))
  (bno (lookI a0 x1) fun y5 =>
  bno (lookI a1 x1) fun y6 =>
  finO (some (decide (y5 < y6))))
  (nxO (some (wi (x1 + (1 : Int))))))
  (dnO (some x1))
noncomputable def S151 (a0 : (List Int)) (a1 : (List Int)) : Option Bool :=
  lp (S151_L1 a0 a1) (0 : Int) fun x7 =>
  some (decide (((List.length a0 : Nat) : Int) < ((List.length a1 : Nat) : Int)))
theorem s151 (a0 : (List Int)) (a1 : (List Int)) : tf151.run [] [(.sl .int), (.sl .int)] .bool (a0, a1) = S151 a0 a1 := by kernel_rfl
noncomputable def P151 (a0 : (List Int)) (a1 : (List Int)) : Option Bool := S151 a0 a1
noncomputable def k151 : CSpec := ⟨151, [(.sl .int), (.sl .int)], .bool, fun x => P151 x.1 x.2, false, []⟩
theorem r151 {S : Seat} (h : Ok1 S 151 tf151) : Rt S k151 := fun x y hy =>
  Ok1.sound h (C := []) CSound.nil rfl rfl rfl ((s151 x.1 x.2).trans hy) rfl

/- tallyhall/tallyref1.Entries -/
def tc122 : TCode :=
  .seq (.region [
  ⟨some 2, .box (.t 0), none, []⟩,
  ⟨some 4, .mov (.c (.int .i64 0)), none, []⟩] [] false)
  (.seq (.region [
  ⟨some 9, .load (some 1) (.t 2), none, []⟩,
  ⟨some 10, .call false [] 125 [(.t 9)], none, []⟩,
  ⟨some 5, .mov (.t 10), none, []⟩] [] false)
  (.seq (.seq (.region [
  ⟨some 11, .mov (.t 5), none, []⟩,
  ⟨some 12, .bin .int .neq (.t 11) (.c (.int .i64 0)), none, []⟩] [] false)
  (.cond (.t 12)
    (.seq (.region [
  ⟨some 13, .mov (.t 5), none, []⟩,
  ⟨some 4, .mov (.t 13), none, []⟩] [] false)
    (.ret))
    (.skip)))
  (.seq (.seq (.region [
  ⟨some 6, .mov (.c (.int .i64 0)), none, []⟩] [] false)
  (.loop ⟨[.slot 6 .int], [5, 7, 8, 14, 15, 16, 17, 18, 19, 20, 21, 22, 23, 24, 25, 26, 27, 28, 30, 31, 32, 33, 34, 35, 36, 37, 38, 39, 40, 41, 42, 43, 44, 45, 46, 47, 48, 49, 50, 51, 52, 53, 54, 55, 56, 57, 58, 59, 60, 61, 62, 63, 64, 65, 66, 67, 68, 69, 70], [], []⟩ 0 (.seq (.seq (.region [
  ⟨some 14, .mov (.t 6), none, []⟩,
  ⟨some 15, .mov (.t 1), none, []⟩,
  ⟨some 16, .len false (.t 15), none, []⟩,
  ⟨some 17, .bin .int .lss (.t 14) (.t 16), none, []⟩] [] false)
    (.cond (.t 17)
      (.skip)
      (.exit 0)))
    (.seq (.block 1 (.seq (.region [
  ⟨some 20, .load (some 1) (.t 2), none, []⟩,
  ⟨some 21, .mov (.t 1), none, []⟩,
  ⟨some 22, .mov (.t 6), none, []⟩,
  ⟨some 23, .ia 2 (.t 21) (.t 22), none, [1, 2]⟩,
  ⟨some 24, .fa 0 (.t 23), none, [3]⟩,
  ⟨some 25, .load none (.t 24), none, [4]⟩,
  ⟨some 26, .call false [] 123 [(.t 20), (.t 25)], none, [0, 5]⟩,
  ⟨some 5, .mov (.t 26), none, [6, 6, 0, 1, 2, 3, 4, 5, 6]⟩] [] true)
      (.seq (.seq (.region [
  ⟨some 27, .mov (.t 5), none, []⟩,
  ⟨some 28, .bin .int .neq (.t 27) (.c (.int .i64 0)), none, []⟩] [] false)
      (.cond (.t 28)
        (.seq (.region [
  ⟨some 29, .mov (.t 5), none, []⟩,
  ⟨some 4, .mov (.t 29), none, []⟩] [] false)
        (.ret))
        (.skip)))
      (.seq (.region [
  ⟨some 30, .load (some 1) (.t 2), none, []⟩,
  ⟨some 31, .mov (.t 1), none, []⟩,
  ⟨some 32, .mov (.t 6), none, []⟩,
  ⟨some 33, .ia 2 (.t 31) (.t 32), none, [1, 2]⟩,
  ⟨some 34, .fa 0 (.t 33), none, [3]⟩,
  ⟨some 35, .load none (.t 34), none, [4]⟩,
  ⟨some 36, .call false [] 130 [(.t 30), (.t 35)], none, [0, 5]⟩,
  ⟨some 7, .mov (.t 36), none, [6, 6, 0, 1, 2, 3, 4, 5, 6]⟩] [] true)
      (.seq (.seq (.region [
  ⟨some 37, .mov (.t 7), none, []⟩,
  ⟨some 38, .un .not (.t 37), none, []⟩] [] false)
      (.cond (.t 38)
        (.seq (.region [
  ⟨some 4, .mov (.c (.int .i64 6)), none, []⟩] [] false)
        (.ret))
        (.skip)))
      (.seq (.seq (.regionJ ⟨[.slot 52 .bool], [39, 40, 41, 42, 43, 44, 45, 46, 47, 48, 49, 50, 51], [], []⟩ [
  ⟨some 39, .mov (.t 1), none, []⟩,
  ⟨some 40, .mov (.t 6), none, []⟩,
  ⟨some 41, .ia 2 (.t 39) (.t 40), none, []⟩,
  ⟨some 42, .fa 1 (.t 41), none, []⟩,
  ⟨some 43, .load none (.t 42), none, []⟩,
  ⟨some 44, .bin .int .lss (.t 43) (.c (.int .i64 (-1000000))), none, []⟩,
  ⟨some 45, .mov (.t 44), none, []⟩,
  ⟨some 46, .mov (.t 1), (some (45, false)), []⟩,
  ⟨some 47, .mov (.t 6), (some (45, false)), []⟩,
  ⟨some 48, .ia 2 (.t 46) (.t 47), (some (45, false)), []⟩,
  ⟨some 49, .fa 1 (.t 48), (some (45, false)), []⟩,
  ⟨some 50, .load none (.t 49), (some (45, false)), []⟩,
  ⟨some 51, .bin .int .gtr (.t 50) (.c (.int .i64 1000000)), (some (45, false)), []⟩,
  ⟨some 52, .pick (.t 45) (.c (.bool true)) (.t 51), none, []⟩] [] false)
      (.cond (.t 52)
        (.seq (.region [
  ⟨some 4, .mov (.c (.int .i64 1)), none, []⟩] [] false)
        (.ret))
        (.skip)))
      (.seq (.regionJ ⟨[.slot 8 .bool], [53, 54, 55, 56, 57, 58, 59, 60, 61, 62, 63, 64, 65, 66, 67, 68], [], []⟩ [
  ⟨some 53, .mov (.t 6), none, []⟩,
  ⟨some 54, .bin .int .eql (.t 53) (.c (.int .i64 0)), none, [0]⟩,
  ⟨some 55, .mov (.t 54), none, [1]⟩,
  ⟨some 56, .mov (.t 1), (some (55, false)), [2]⟩,
  ⟨some 57, .mov (.t 6), (some (55, false)), [2]⟩,
  ⟨some 58, .bin .int .sub (.t 57) (.c (.int .i64 1)), (some (55, false)), [4, 2]⟩,
  ⟨some 59, .ia 2 (.t 56) (.t 58), (some (55, false)), [3, 5, 2]⟩,
  ⟨some 60, .fa 0 (.t 59), (some (55, false)), [6, 2]⟩,
  ⟨some 61, .load none (.t 60), (some (55, false)), [7, 2]⟩,
  ⟨some 62, .mov (.t 1), (some (55, false)), [2]⟩,
  ⟨some 63, .mov (.t 6), (some (55, false)), [2]⟩,
  ⟨some 64, .ia 2 (.t 62) (.t 63), (some (55, false)), [9, 10, 2]⟩,
  ⟨some 65, .fa 0 (.t 64), (some (55, false)), [11, 2]⟩,
  ⟨some 66, .load none (.t 65), (some (55, false)), [12, 2]⟩,
  ⟨some 67, .call false [] 151 [(.t 61), (.t 66)], (some (55, false)), [8, 13, 2, 2]⟩,
  ⟨some 68, .pick (.t 55) (.c (.bool true)) (.t 67), none, [2, 14]⟩,
  ⟨some 8, .mov (.t 68), none, [15, 14, 0, 1, 2, 3, 4, 5, 6, 7, 8, 9, 10, 11, 12, 13, 14, 15]⟩] [] true)
      (.seq (.region [
  ⟨some 69, .mov (.t 8), none, []⟩,
  ⟨some 70, .un .not (.t 69), none, []⟩] [] false)
      (.cond (.t 70)
        (.seq (.region [
  ⟨some 4, .mov (.c (.int .i64 7)), none, []⟩] [] false)
        (.ret))
        (.skip))))))))))
    (.region [
  ⟨some 18, .mov (.t 6), none, []⟩,
  ⟨some 19, .bin .int .add (.t 18) (.c (.int .i64 1)), none, []⟩,
  ⟨some 6, .mov (.t 19), none, []⟩] [] false)))))
  (.seq (.region [
  ⟨some 4, .mov (.c (.int .i64 0)), none, []⟩] [] false)
  (.ret)))))
def tf122 : TFunc := { np := 2, nt := 71, res := [.tmp 4], own := false, body := tc122 }
noncomputable def S122_L1 (F123 : (List Dim) → (List Int) → (Option Int)) (F130 : (List Dim) → (List Int) → (Option Bool)) (F151 : (List Int) → (List Int) → (Option Bool)) (a0 : (List Dim)) (a1 : (List Entry)) (x2 : Int) : Option (LR Int Int) :=
  br (decide (x2 < ((List.length a1 : Nat) : Int)))
  (bno (lookI a1 x2) fun y3 =>
  bno (F123 a0 (Entry.at_ y3)) fun y4 =>
  br (decide (¬ y4 = (0 : Int)))
  (finO (some y4))
  (bno (lookI a1 x2) fun y5 =>
  bno (F130 a0 (Entry.at_ y5)) fun y6 =>
  br (!y6)
  (finO (some (6 : Int)))
  (jn (σ := Bool) (α := (LR Int Int)) (bno (lookI a1 x2) fun y7 =>
  br (decide ((Entry.n y7) < (-1000000 : Int)))
  (inlO (some true))
  (bno (lookI a1 x2) fun y8 =>
  inlO (some (decide ((1000000 : Int) < (Entry.n y8)))))) fun x9 =>
  br x9
  (finO (some (1 : Int)))
  (jn (σ := Bool) (α := (LR Int Int)) (br (decide (x2 = (0 : Int)))
  (inlO (some true))
  (bno (lookI a1 (wi (x2 - (1 : Int)))) fun y10 =>
  bno (lookI a1 x2) fun y11 =>
  bno (F151 (Entry.at_ y10) (Entry.at_ y11)) fun y12 =>
  inlO (some y12))) fun x13 =>
  br (!x13)
  (finO (some (7 : Int)))
  (nxO (some (wi (x2 + (1 : Int)))))))))
  (dnO (some x2))
noncomputable def S122 (F123 : (List Dim) → (List Int) → (Option Int)) (F125 : (List Dim) → (Option Int)) (F130 : (List Dim) → (List Int) → (Option Bool)) (F151 : (List Int) → (List Int) → (Option Bool)) (a0 : (List Dim)) (a1 : (List Entry)) : Option Int :=
  bno (F125 a0) fun y1 =>
  br (decide (¬ y1 = (0 : Int)))
  (some y1)
  (lp (S122_L1 F123 F130 F151 a0 a1) (0 : Int) fun x14 =>
  some (0 : Int))
theorem s122 (F123 : (List Dim) → (List Int) → (Option Int)) (F125 : (List Dim) → (Option Int)) (F130 : (List Dim) → (List Int) → (Option Bool)) (F151 : (List Int) → (List Int) → (Option Bool)) (a0 : (List Dim)) (a1 : (List Entry)) : tf122.run [⟨123, [(.st .outl), (.sl .int)], .int, fun x => F123 x.1 x.2, false, []⟩,
  ⟨125, [(.st .outl)], .int, fun x => F125 x, false, []⟩,
  ⟨130, [(.st .outl), (.sl .int)], .bool, fun x => F130 x.1 x.2, false, []⟩,
  ⟨151, [(.sl .int), (.sl .int)], .bool, fun x => F151 x.1 x.2, false, []⟩] [(.st .outl), (.sl .entry)] .int (a0, a1) = S122 F123 F125 F130 F151 a0 a1 := by kernel_rfl
noncomputable def P122 (a0 : (List Dim)) (a1 : (List Entry)) : Option Int := S122 P123 P125 P130 P151 a0 a1
noncomputable def k122 : CSpec := ⟨122, [(.st .outl), (.sl .entry)], .int, fun x => P122 x.1 x.2, false, []⟩
theorem r122 {S : Seat} (h : Ok1 S 122 tf122) (h123 : Rt S k123) (h125 : Rt S k125) (h130 : Rt S k130) (h151 : Rt S k151) : Rt S k122 := fun x y hy =>
  Ok1.sound h (C := [k123, k125, k130, k151]) (CSound.cons h123 (CSound.cons h125 (CSound.cons h130 (CSound.cons h151 CSound.nil)))) rfl rfl rfl ((s122 P123 P125 P130 P151 x.1 x.2).trans hy) rfl

/- tallyhall/tallyref1.PlaceWeight -/
/- tallyhall/tallyref1.Number -/
def tc140 : TCode :=
  .seq (.region [
  ⟨some 2, .box (.t 0), none, []⟩,
  ⟨some 4, .mov (.c (.int .i64 0)), none, []⟩] [] false)
  (.seq (.region [
  ⟨some 5, .mov (.c (.int .i64 0)), none, []⟩] [] false)
  (.seq (.seq (.region [
  ⟨some 6, .mov (.c (.int .i64 0)), none, []⟩] [] false)
  (.loop ⟨[.slot 5 .int, .slot 6 .int], [7, 8, 9, 10, 11, 12, 13, 14, 15, 16, 17, 18, 19, 20, 21, 22, 23, 24, 25, 26], [], []⟩ 0 (.seq (.seq (.region [
  ⟨some 7, .mov (.t 6), none, []⟩,
  ⟨some 8, .mov (.t 1), none, []⟩,
  ⟨some 9, .len false (.t 8), none, []⟩,
  ⟨some 10, .bin .int .lss (.t 7) (.t 9), none, []⟩] [] false)
    (.cond (.t 10)
      (.skip)
      (.exit 0)))
    (.seq (.block 1 (.region [
  ⟨some 13, .mov (.t 5), none, []⟩,
  ⟨some 14, .fa 0 (.t 2), none, []⟩,
  ⟨some 15, .load none (.t 14), none, [1]⟩,
  ⟨some 16, .mov (.t 6), none, []⟩,
  ⟨some 17, .ia 3 (.t 15) (.t 16), none, [2, 3]⟩,
  ⟨some 18, .fa 2 (.t 17), none, [4]⟩,
  ⟨some 19, .load none (.t 18), none, [5]⟩,
  ⟨some 20, .len false (.t 19), none, [6]⟩,
  ⟨some 21, .bin .int .mul (.t 13) (.t 20), none, [0, 7]⟩,
  ⟨some 22, .mov (.t 1), none, []⟩,
  ⟨some 23, .mov (.t 6), none, []⟩,
  ⟨some 24, .ia 1 (.t 22) (.t 23), none, [9, 10]⟩,
  ⟨some 25, .load none (.t 24), none, [11]⟩,
  ⟨some 26, .bin .int .add (.t 21) (.t 25), none, [8, 12]⟩,
  ⟨some 5, .mov (.t 26), none, [13, 0, 1, 2, 3, 4, 5, 6, 7, 8, 9, 10, 11, 12, 13]⟩] [] true))
    (.region [
  ⟨some 11, .mov (.t 6), none, []⟩,
  ⟨some 12, .bin .int .add (.t 11) (.c (.int .i64 1)), none, []⟩,
  ⟨some 6, .mov (.t 12), none, []⟩] [] false)))))
  (.seq (.region [
  ⟨some 27, .mov (.t 5), none, []⟩,
  ⟨some 4, .mov (.t 27), none, []⟩] [] false)
  (.ret))))
def tf140 : TFunc := { np := 2, nt := 28, res := [.tmp 4], own := false, body := tc140 }
noncomputable def S140_L1 (a0 : (List Dim)) (a1 : (List Int)) (x1 : (Int × Int)) : Option (LR (Int × Int) Int) :=
  br (decide (x1.2 < ((List.length a1 : Nat) : Int)))
  (bno (lookI a0 x1.2) fun y2 =>
  bno (lookI a1 x1.2) fun y3 =>
  nxO (some (wi ((wi (x1.1 * ((List.length (Dim.members y2) : Nat) : Int))) + y3), wi (x1.2 + (1 : Int)))))
  (dnO (some (x1.1, x1.2)))
noncomputable def S140 (a0 : (List Dim)) (a1 : (List Int)) : Option Int :=
  lp (S140_L1 a0 a1) ((0 : Int), (0 : Int)) fun x4 =>
  some x4.1
theorem s140 (a0 : (List Dim)) (a1 : (List Int)) : tf140.run [] [(.st .outl), (.sl .int)] .int (a0, a1) = S140 a0 a1 := by kernel_rfl
noncomputable def P140 (a0 : (List Dim)) (a1 : (List Int)) : Option Int := S140 a0 a1
noncomputable def k140 : CSpec := ⟨140, [(.st .outl), (.sl .int)], .int, fun x => P140 x.1 x.2, false, []⟩
theorem r140 {S : Seat} (h : Ok1 S 140 tf140) : Rt S k140 := fun x y hy =>
  Ok1.sound h (C := []) CSound.nil rfl rfl rfl ((s140 x.1 x.2).trans hy) rfl

/- tallyhall/tallyref1.At -/
def tc142 : TCode :=
  .seq (.region [
  ⟨some 2, .box (.t 0), none, []⟩,
  ⟨some 4, .mov (.c (.slice none 0 0)), none, []⟩] [] false)
  (.seq (.region [
  ⟨some 8, .fa 0 (.t 2), none, []⟩,
  ⟨some 9, .load none (.t 8), none, []⟩,
  ⟨some 10, .len false (.t 9), none, []⟩,
  ⟨some 11, .mksl 1 [.int .i64 0] (.t 10) (.t 10), none, []⟩,
  ⟨some 5, .mov (.t 11), none, []⟩] [] false)
  (.seq (.seq (.region [
  ⟨some 12, .fa 0 (.t 2), none, []⟩,
  ⟨some 13, .load none (.t 12), none, []⟩,
  ⟨some 14, .len false (.t 13), none, []⟩,
  ⟨some 15, .bin .int .sub (.t 14) (.c (.int .i64 1)), none, []⟩,
  ⟨some 6, .mov (.t 15), none, []⟩] [] false)
  (.loop ⟨[.slot 1 .int, .slot 6 .int, .rowH 11 .int], [7, 16, 17, 18, 19, 20, 21, 22, 23, 24, 25, 26, 27, 28, 29, 30, 31, 32, 33, 34, 35], [], []⟩ 0 (.seq (.seq (.region [
  ⟨some 16, .mov (.t 6), none, []⟩,
  ⟨some 17, .bin .int .geq (.t 16) (.c (.int .i64 0)), none, []⟩] [] false)
    (.cond (.t 17)
      (.skip)
      (.exit 0)))
    (.seq (.block 1 (.seq (.region [
  ⟨some 20, .fa 0 (.t 2), none, []⟩,
  ⟨some 21, .load none (.t 20), none, []⟩,
  ⟨some 22, .mov (.t 6), none, []⟩,
  ⟨some 23, .ia 3 (.t 21) (.t 22), none, []⟩,
  ⟨some 24, .fa 2 (.t 23), none, []⟩,
  ⟨some 25, .load none (.t 24), none, []⟩,
  ⟨some 26, .len false (.t 25), none, []⟩,
  ⟨some 7, .mov (.t 26), none, []⟩] [] false)
      (.seq (.region [
  ⟨some 27, .mov (.t 5), none, []⟩,
  ⟨some 28, .mov (.t 6), none, []⟩,
  ⟨some 29, .mov (.t 1), none, []⟩,
  ⟨some 30, .mov (.t 7), none, []⟩,
  ⟨some 31, .bin .int .rem (.t 29) (.t 30), none, []⟩,
  ⟨some 32, .ia 1 (.t 27) (.t 28), none, []⟩,
  ⟨none, .store 1 (.t 32) (.t 31), none, []⟩] [] false)
      (.region [
  ⟨some 33, .mov (.t 1), none, []⟩,
  ⟨some 34, .mov (.t 7), none, []⟩,
  ⟨some 35, .bin .int .quo (.t 33) (.t 34), none, []⟩,
  ⟨some 1, .mov (.t 35), none, []⟩] [] false))))
    (.region [
  ⟨some 18, .mov (.t 6), none, []⟩,
  ⟨some 19, .bin .int .sub (.t 18) (.c (.int .i64 1)), none, []⟩,
  ⟨some 6, .mov (.t 19), none, []⟩] [] false)))))
  (.seq (.region [
  ⟨some 36, .mov (.t 5), none, []⟩,
  ⟨some 4, .mov (.t 36), none, []⟩] [] false)
  (.ret))))
def tf142 : TFunc := { np := 2, nt := 37, res := [.tmp 4], own := false, body := tc142 }
noncomputable def S142_L1 (a0 : (List Dim)) (x1 : (Int × Int × (List Int))) : Option (LR (Int × Int × (List Int)) (List Int)) :=
  br (decide ((0 : Int) ≤ x1.2.1))
  (bno (lookI a0 x1.2.1) fun y2 =>
  ck (decide (¬ ((List.length (Dim.members y2) : Nat) : Int) = 0)) <|
  ck (decide (0 ≤ x1.2.1 ∧ x1.2.1 < ((List.length x1.2.2 : Nat) : Int))) <|
  bno ((x1.2.2)[(Int.toNat x1.2.1)]?) fun y3 =>
  ck (decide (¬ ((List.length (Dim.members y2) : Nat) : Int) = 0)) <|
  nxO (some (wi (Int.tdiv x1.1 ((List.length (Dim.members y2) : Nat) : Int)), wi (x1.2.1 - (1 : Int)), List.set x1.2.2 (Int.toNat x1.2.1) (Int.tmod x1.1 ((List.length (Dim.members y2) : Nat) : Int)))))
  (dnO (some (x1.1, x1.2.1, x1.2.2)))
noncomputable def S142 (a0 : (List Dim)) (a1 : Int) : Option (List Int) :=
  ck (decide (0 ≤ ((List.length a0 : Nat) : Int) ∧ ((List.length a0 : Nat) : Int) ≤ ((List.length a0 : Nat) : Int) ∧ ((List.length a0 : Nat) : Int) ≤ roomA)) <|
  lp (S142_L1 a0) (a1, wi (((List.length a0 : Nat) : Int) - (1 : Int)), List.replicate (Int.toNat ((List.length a0 : Nat) : Int)) (0 : Int)) fun x4 =>
  some x4.2.2
theorem s142 (a0 : (List Dim)) (a1 : Int) : tf142.run [] [(.st .outl), .int] (.sl .int) (a0, a1) = S142 a0 a1 := by kernel_rfl
noncomputable def P142 (a0 : (List Dim)) (a1 : Int) : Option (List Int) := S142 a0 a1
noncomputable def k142 : CSpec := ⟨142, [(.st .outl), .int], (.sl .int), fun x => P142 x.1 x.2, false, []⟩
theorem r142 {S : Seat} (h : Ok1 S 142 tf142) : Rt S k142 := fun x y hy =>
  Ok1.sound h (C := []) CSound.nil rfl rfl rfl ((s142 x.1 x.2).trans hy) rfl

/- tallyhall/tallyref1.Roll -/
/- tallyhall/tallyref1.RollLeafs -/
end Ab
end

section
namespace Ab
open Go
set_option linter.unusedVariables false
set_option maxRecDepth 100000

/- tallyhall/tallyref1.Find -/
def tc155 : TCode :=
  .seq (.region [
  ⟨some 4, .mov (.c (.int .i64 0)), none, []⟩,
  ⟨some 5, .mov (.c (.bool false)), none, []⟩] [] false)
  (.seq (.region [
  ⟨some 6, .mov (.c (.int .i64 0)), none, []⟩] [] false)
  (.seq (.loop ⟨[.slot 6 .int], [8, 9, 10, 11, 12, 13, 14, 15, 16, 17, 18, 19, 20, 21, 22], [], []⟩ 0 (.seq (.seq (.regionJ ⟨[.slot 20 .bool], [8, 9, 10, 11, 12, 13, 14, 15, 16, 17, 18, 19], [], []⟩ [
  ⟨some 8, .mov (.t 6), none, []⟩,
  ⟨some 9, .mov (.t 0), none, []⟩,
  ⟨some 10, .len false (.t 9), none, []⟩,
  ⟨some 11, .bin .int .lss (.t 8) (.t 10), none, []⟩,
  ⟨some 12, .mov (.t 11), none, []⟩,
  ⟨some 13, .mov (.t 0), (some (12, true)), []⟩,
  ⟨some 14, .mov (.t 6), (some (12, true)), []⟩,
  ⟨some 15, .ia 2 (.t 13) (.t 14), (some (12, true)), []⟩,
  ⟨some 16, .fa 0 (.t 15), (some (12, true)), []⟩,
  ⟨some 17, .load none (.t 16), (some (12, true)), []⟩,
  ⟨some 18, .mov (.t 1), (some (12, true)), []⟩,
  ⟨some 19, .call false [] 151 [(.t 17), (.t 18)], (some (12, true)), []⟩,
  ⟨some 20, .pick (.t 12) (.t 19) (.c (.bool false)), none, []⟩] [] false)
    (.cond (.t 20)
      (.skip)
      (.exit 0)))
    (.block 1 (.region [
  ⟨some 21, .mov (.t 6), none, []⟩,
  ⟨some 22, .bin .int .add (.t 21) (.c (.int .i64 1)), none, []⟩,
  ⟨some 6, .mov (.t 22), none, []⟩] [] false))))
  (.seq (.seq (.region [
  ⟨some 23, .mov (.t 6), none, []⟩,
  ⟨some 24, .mov (.t 0), none, []⟩,
  ⟨some 25, .len false (.t 24), none, []⟩,
  ⟨some 26, .bin .int .eql (.t 23) (.t 25), none, []⟩] [] false)
  (.cond (.t 26)
    (.seq (.region [
  ⟨some 27, .mov (.t 6), none, []⟩,
  ⟨some 4, .mov (.t 27), none, []⟩,
  ⟨some 5, .mov (.c (.bool false)), none, []⟩] [] false)
    (.ret))
    (.skip)))
  (.seq (.region [
  ⟨some 28, .mov (.t 1), none, []⟩,
  ⟨some 29, .mov (.t 0), none, []⟩,
  ⟨some 30, .mov (.t 6), none, []⟩,
  ⟨some 31, .ia 2 (.t 29) (.t 30), none, []⟩,
  ⟨some 32, .fa 0 (.t 31), none, []⟩,
  ⟨some 33, .load none (.t 32), none, []⟩,
  ⟨some 34, .call false [] 151 [(.t 28), (.t 33)], none, []⟩,
  ⟨some 7, .mov (.t 34), none, []⟩] [] false)
  (.seq (.region [
  ⟨some 35, .mov (.t 6), none, []⟩,
  ⟨some 36, .mov (.t 7), none, []⟩,
  ⟨some 37, .un .not (.t 36), none, []⟩,
  ⟨some 4, .mov (.t 35), none, []⟩,
  ⟨some 5, .mov (.t 37), none, []⟩] [] false)
  (.ret))))))
def tf155 : TFunc := { np := 2, nt := 38, res := [.tmp 4, .tmp 5], own := false, body := tc155 }
noncomputable def S155_L1 (F151 : (List Int) → (List Int) → (Option Bool)) (a0 : (List Entry)) (a1 : (List Int)) (x1 : Int) : Option (LR Int (Int × Bool)) :=
  jn (σ := Bool) (α := (LR Int (Int × Bool))) (br (decide (x1 < ((List.length a0 : Nat) : Int)))
  (bno (lookI a0 x1) fun y2 =>
  bno (F151 (Entry.at_ y2) a1) fun y3 =>
  inlO (some y3))
  (inlO (some false))) fun x4 =>
  br x4
  (nxO (some (wi (x1 + (1 : Int)))))
  (dnO (some x1))
noncomputable def S155 (F151 : (List Int) → (List Int) → (Option Bool)) (a0 : (List Entry)) (a1 : (List Int)) : Option (Int × Bool) :=
  lp (S155_L1 F151 a0 a1) (0 : Int) fun x5 =>
  br (decide (x5 = ((List.length a0 : Nat) : Int)))
  (some (x5, false))
  (bno (lookI a0 x5) fun y6 =>
  bno (F151 a1 (Entry.at_ y6)) fun y7 =>
  some (x5, !y7))
theorem s155 (F151 : (List Int) → (List Int) → (Option Bool)) (a0 : (List Entry)) (a1 : (List Int)) : tf155.run [⟨151, [(.sl .int), (.sl .int)], .bool, fun x => F151 x.1 x.2, false, []⟩] [(.sl .entry), (.sl .int)] (.tp [.int, .bool]) (a0, a1) = S155 F151 a0 a1 := by kernel_rfl
noncomputable def P155 (a0 : (List Entry)) (a1 : (List Int)) : Option (Int × Bool) := S155 P151 a0 a1
noncomputable def k155 : CSpec := ⟨155, [(.sl .entry), (.sl .int)], (.tp [.int, .bool]), fun x => P155 x.1 x.2, false, []⟩
theorem r155 {S : Seat} (h : Ok1 S 155 tf155) (h151 : Rt S k151) : Rt S k155 := fun x y hy =>
  Ok1.sound h (C := [k151]) (CSound.cons h151 CSound.nil) rfl rfl rfl ((s155 P151 x.1 x.2).trans hy) rfl

/- tallyhall/tallyref1.Input -/
def tc134 : TCode :=
  .seq (.region [
  ⟨some 4, .alloc [.int .i64 0, .int .i64 0], none, []⟩] [] false)
  (.seq (.region [
  ⟨some 8, .mov (.t 0), none, []⟩,
  ⟨some 9, .mov (.t 1), none, []⟩,
  ⟨some 10, .call false [] 155 [(.t 8), (.t 9)], none, []⟩,
  ⟨some 7, .mov (.t 10), none, []⟩,
  ⟨some 11, .ext (.t 7) 0, none, []⟩,
  ⟨some 12, .ext (.t 7) 1, none, []⟩,
  ⟨some 5, .mov (.t 11), none, []⟩,
  ⟨some 6, .mov (.t 12), none, []⟩] [] false)
  (.seq (.seq (.region [
  ⟨some 13, .mov (.t 6), none, []⟩,
  ⟨some 14, .un .not (.t 13), none, []⟩] [] false)
  (.cond (.t 14)
    (.seq (.region [
  ⟨some 15, .build [.int .i64 0, .int .i64 0] [], none, []⟩,
  ⟨none, .store 2 (.t 4) (.t 15), none, []⟩] [] false)
    (.ret))
    (.skip)))
  (.seq (.region [
  ⟨some 16, .mov (.t 0), none, []⟩,
  ⟨some 17, .mov (.t 5), none, []⟩,
  ⟨some 18, .ia 2 (.t 16) (.t 17), none, []⟩,
  ⟨some 19, .fa 1 (.t 18), none, []⟩,
  ⟨some 20, .load none (.t 19), none, []⟩,
  ⟨some 21, .build [.int .i64 0, .int .i64 0] [(0, 1, (.c (.int .i64 1))), (1, 1, (.t 20))], none, []⟩,
  ⟨none, .store 2 (.t 4) (.t 21), none, []⟩] [] false)
  (.ret))))
def tf134 : TFunc := { np := 2, nt := 22, res := [.cell 4 (some 2)], own := false, body := tc134 }
noncomputable def S134 (F155 : (List Entry) → (List Int) → (Option (Int × Bool))) (a0 : (List Entry)) (a1 : (List Int)) : Option Cell :=
  bno (F155 a0 a1) fun y1 =>
  br (!y1.2)
  (some (Cell.mk (0 : Int) (0 : Int)))
  (bno (lookI a0 y1.1) fun y2 =>
  some (Cell.mk (1 : Int) (Entry.n y2)))
theorem s134 (F155 : (List Entry) → (List Int) → (Option (Int × Bool))) (a0 : (List Entry)) (a1 : (List Int)) : tf134.run [⟨155, [(.sl .entry), (.sl .int)], (.tp [.int, .bool]), fun x => F155 x.1 x.2, false, []⟩] [(.sl .entry), (.sl .int)] (.st .cell) (a0, a1) = S134 F155 a0 a1 := by kernel_rfl
noncomputable def P134 (a0 : (List Entry)) (a1 : (List Int)) : Option Cell := S134 P155 a0 a1
noncomputable def k134 : CSpec := ⟨134, [(.sl .entry), (.sl .int)], (.st .cell), fun x => P134 x.1 x.2, false, []⟩
theorem r134 {S : Seat} (h : Ok1 S 134 tf134) (h155 : Rt S k155) : Rt S k134 := fun x y hy =>
  Ok1.sound h (C := [k155]) (CSound.cons h155 CSound.nil) rfl rfl rfl ((s134 P155 x.1 x.2).trans hy) rfl

/- tallyhall/tallyref1.Edit -/
/- tallyhall/tallysame.Entries -/
/- tallyhall/tallyref1.Edits -/
end Ab
end
