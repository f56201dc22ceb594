/-
  Functions of the program as typed code, what they come to, and their contracts: written by program (mk.py).
-/
import Derived.Test.YthjpciiacibnhaaDoorB2
import Derived.KernelRfl
namespace Ab
open Go
set_option linter.unusedVariables false
set_option maxRecDepth 100000

/- tallyhall/tallyref1.Size -/
def tc106 : TCode :=
  .seq (.region [
  ⟨some 1, .box (.t 0), none, []⟩,
  ⟨some 2, .mov (.c (.int .i64 0)), none, []⟩] [] false)
  (.seq (.region [
  ⟨some 3, .mov (.c (.int .i64 1)), none, []⟩] [] false)
  (.seq (.seq (.region [
  ⟨some 4, .mov (.c (.int .i64 0)), none, []⟩] [] false)
  (.loop ⟨[.slot 3 .int, .slot 4 .int], [5, 6, 7, 8, 9, 10, 11, 12, 13, 14, 15, 16, 17, 18, 19, 20], [], []⟩ 0 (.seq (.seq (.region [
  ⟨some 5, .mov (.t 4), none, []⟩,
  ⟨some 6, .fa 0 (.t 1), none, []⟩,
  ⟨some 7, .load none (.t 6), none, []⟩,
  ⟨some 8, .len false (.t 7), none, []⟩,
  ⟨some 9, .bin .int .lss (.t 5) (.t 8), none, []⟩] [] false)
    (.cond (.t 9)
      (.skip)
      (.exit 0)))
    (.seq (.block 1 (.region [
  ⟨some 12, .mov (.t 3), none, []⟩,
  ⟨some 13, .fa 0 (.t 1), none, []⟩,
  ⟨some 14, .load none (.t 13), none, []⟩,
  ⟨some 15, .mov (.t 4), none, []⟩,
  ⟨some 16, .ia 3 (.t 14) (.t 15), none, []⟩,
  ⟨some 17, .fa 2 (.t 16), none, []⟩,
  ⟨some 18, .load none (.t 17), none, []⟩,
  ⟨some 19, .len false (.t 18), none, []⟩,
  ⟨some 20, .bin .int .mul (.t 12) (.t 19), none, []⟩,
  ⟨some 3, .mov (.t 20), none, []⟩] [] false))
    (.region [
  ⟨some 10, .mov (.t 4), none, []⟩,
  ⟨some 11, .bin .int .add (.t 10) (.c (.int .i64 1)), none, []⟩,
  ⟨some 4, .mov (.t 11), none, []⟩] [] false)))))
  (.seq (.region [
  ⟨some 21, .mov (.t 3), none, []⟩,
  ⟨some 2, .mov (.t 21), none, []⟩] [] false)
  (.ret))))
def tf106 : TFunc := { np := 1, nt := 22, res := [.tmp 2], own := false, body := tc106 }
noncomputable def S106_L1 (a0 : (List Dim)) (x1 : (Int × Int)) : Option (LR (Int × Int) Int) :=
  br (decide (x1.2 < ((List.length a0 : Nat) : Int)))
  (bno (lookI a0 x1.2) fun y2 =>
  nxO (some (wi (x1.1 * ((List.length (Dim.members y2) : Nat) : Int)), wi (x1.2 + (1 : Int)))))
  (dnO (some (x1.1, x1.2)))
noncomputable def S106 (a0 : (List Dim)) : Option Int :=
  lp (S106_L1 a0) ((1 : Int), (0 : Int)) fun x3 =>
  some x3.1
theorem s106 (a0 : (List Dim)) : tf106.run [] [(.st .outl)] .int a0 = S106 a0 := by kernel_rfl
noncomputable def P106 (a0 : (List Dim)) : Option Int := S106 a0
noncomputable def k106 : CSpec := ⟨106, [(.st .outl)], .int, fun x => P106 x, false, []⟩
theorem r106 {S : Seat} (h : Ok1 S 106 tf106) : Rt S k106 := fun x y hy =>
  Ok1.sound h (C := []) CSound.nil rfl rfl rfl ((s106 x).trans hy) rfl

/- tallyhall/tallyref1.Where -/
def tc96 : TCode :=
  .seq (.region [
  ⟨some 2, .box (.t 0), none, []⟩,
  ⟨some 4, .mov (.c (.int .i64 0)), none, []⟩] [] false)
  (.seq (.seq (.region [
  ⟨some 5, .mov (.c (.int .i64 0)), none, []⟩] [] false)
  (.loop ⟨[.slot 5 .int], [6, 7, 8, 9, 10, 11, 12, 13, 14, 15, 16, 17, 18, 19, 20], [], []⟩ 0 (.seq (.seq (.region [
  ⟨some 6, .mov (.t 5), none, []⟩,
  ⟨some 7, .fa 2 (.t 2), none, []⟩,
  ⟨some 8, .load none (.t 7), none, []⟩,
  ⟨some 9, .len false (.t 8), none, []⟩,
  ⟨some 10, .bin .int .lss (.t 6) (.t 9), none, []⟩] [] false)
    (.cond (.t 10)
      (.skip)
      (.exit 0)))
    (.seq (.block 1 (.seq (.region [
  ⟨some 13, .fa 2 (.t 2), none, []⟩,
  ⟨some 14, .load none (.t 13), none, []⟩,
  ⟨some 15, .mov (.t 5), none, []⟩,
  ⟨some 16, .ia 4 (.t 14) (.t 15), none, []⟩,
  ⟨some 17, .fa 0 (.t 16), none, []⟩,
  ⟨some 18, .load none (.t 17), none, []⟩,
  ⟨some 19, .mov (.t 1), none, []⟩,
  ⟨some 20, .bin .str .eql (.t 18) (.t 19), none, []⟩] [] false)
      (.cond (.t 20)
        (.seq (.region [
  ⟨some 21, .mov (.t 5), none, []⟩,
  ⟨some 4, .mov (.t 21), none, []⟩] [] false)
        (.ret))
        (.skip))))
    (.region [
  ⟨some 11, .mov (.t 5), none, []⟩,
  ⟨some 12, .bin .int .add (.t 11) (.c (.int .i64 1)), none, []⟩,
  ⟨some 5, .mov (.t 12), none, []⟩] [] false)))))
  (.seq (.region [
  ⟨some 4, .mov (.c (.int .i64 (-1))), none, []⟩] [] false)
  (.ret)))
def tf96 : TFunc := { np := 2, nt := 22, res := [.tmp 4], own := false, body := tc96 }
noncomputable def S96_L1 (a0 : Dim) (a1 : ByteArray) (x1 : Int) : Option (LR Int Int) :=
  br (decide (x1 < ((List.length (Dim.members a0) : Nat) : Int)))
  (bno (lookI (Dim.members a0) x1) fun y2 =>
  br (decide ((Member.name y2) = a1))
  (finO (some x1))
  (nxO (some (wi (x1 + (1 : Int))))))
  (dnO (some x1))
noncomputable def S96 (a0 : Dim) (a1 : ByteArray) : Option Int :=
  lp (S96_L1 a0 a1) (0 : Int) fun x3 =>
  some (-1 : Int)
theorem s96 (a0 : Dim) (a1 : ByteArray) : tf96.run [] [(.st .dim), .str] .int (a0, a1) = S96 a0 a1 := by kernel_rfl
noncomputable def P96 (a0 : Dim) (a1 : ByteArray) : Option Int := S96 a0 a1
noncomputable def k96 : CSpec := ⟨96, [(.st .dim), .str], .int, fun x => P96 x.1 x.2, false, []⟩
theorem r96 {S : Seat} (h : Ok1 S 96 tf96) : Rt S k96 := fun x y hy =>
  Ok1.sound h (C := []) CSound.nil rfl rfl rfl ((s96 x.1 x.2).trans hy) rfl

/- tallyhall/tallyref1.Name -/
def tc97 : TCode :=
  .seq (.region [
  ⟨some 2, .mov (.c (.int .i64 0)), none, []⟩] [] false)
  (.seq (.seq (.regionJ ⟨[.slot 10 .bool], [4, 5, 6, 7, 8, 9], [], []⟩ [
  ⟨some 4, .mov (.t 0), none, []⟩,
  ⟨some 5, .bin .str .eql (.t 4) (.c (.string ⟨#[]⟩)), none, []⟩,
  ⟨some 6, .mov (.t 5), none, []⟩,
  ⟨some 7, .mov (.t 0), (some (6, false)), []⟩,
  ⟨some 8, .len true (.t 7), (some (6, false)), []⟩,
  ⟨some 9, .bin .int .gtr (.t 8) (.c (.int .i64 8)), (some (6, false)), []⟩,
  ⟨some 10, .pick (.t 6) (.c (.bool true)) (.t 9), none, []⟩] [] false)
  (.cond (.t 10)
    (.seq (.region [
  ⟨some 2, .mov (.c (.int .i64 2)), none, []⟩] [] false)
    (.ret))
    (.skip)))
  (.seq (.seq (.region [
  ⟨some 3, .mov (.c (.int .i64 0)), none, []⟩] [] false)
  (.loop ⟨[.slot 3 .int], [11, 12, 13, 14, 15, 16, 17, 18, 19, 20, 21, 22, 23, 24, 25, 26], [], []⟩ 0 (.seq (.seq (.region [
  ⟨some 11, .mov (.t 3), none, []⟩,
  ⟨some 12, .mov (.t 0), none, []⟩,
  ⟨some 13, .len true (.t 12), none, []⟩,
  ⟨some 14, .bin .int .lss (.t 11) (.t 13), none, []⟩] [] false)
    (.cond (.t 14)
      (.skip)
      (.exit 0)))
    (.seq (.block 1 (.seq (.regionJ ⟨[.slot 26 .bool], [17, 18, 19, 20, 21, 22, 23, 24, 25], [], []⟩ [
  ⟨some 17, .mov (.t 0), none, []⟩,
  ⟨some 18, .mov (.t 3), none, []⟩,
  ⟨some 19, .ix (.t 17) (.t 18), none, []⟩,
  ⟨some 20, .bin .int .lss (.t 19) (.c (.int .u8 97)), none, []⟩,
  ⟨some 21, .mov (.t 20), none, []⟩,
  ⟨some 22, .mov (.t 0), (some (21, false)), []⟩,
  ⟨some 23, .mov (.t 3), (some (21, false)), []⟩,
  ⟨some 24, .ix (.t 22) (.t 23), (some (21, false)), []⟩,
  ⟨some 25, .bin .int .gtr (.t 24) (.c (.int .u8 122)), (some (21, false)), []⟩,
  ⟨some 26, .pick (.t 21) (.c (.bool true)) (.t 25), none, []⟩] [] false)
      (.cond (.t 26)
        (.seq (.region [
  ⟨some 2, .mov (.c (.int .i64 2)), none, []⟩] [] false)
        (.ret))
        (.skip))))
    (.region [
  ⟨some 15, .mov (.t 3), none, []⟩,
  ⟨some 16, .bin .int .add (.t 15) (.c (.int .i64 1)), none, []⟩,
  ⟨some 3, .mov (.t 16), none, []⟩] [] false)))))
  (.seq (.region [
  ⟨some 2, .mov (.c (.int .i64 0)), none, []⟩] [] false)
  (.ret))))
def tf97 : TFunc := { np := 1, nt := 27, res := [.tmp 2], own := false, body := tc97 }
noncomputable def S97_L1 (a0 : ByteArray) (x2 : Int) : Option (LR Int Int) :=
  br (decide (x2 < ((ByteArray.size a0 : Nat) : Int)))
  (jn (σ := Bool) (α := (LR Int Int)) (bno (lookI (ByteArray.data a0).toList x2) fun y3 =>
  br (decide (((UInt8.toNat y3 : Nat) : Int) < (97 : Int)))
  (inlO (some true))
  (bno (lookI (ByteArray.data a0).toList x2) fun y4 =>
  inlO (some (decide ((122 : Int) < ((UInt8.toNat y4 : Nat) : Int)))))) fun x5 =>
  br x5
  (finO (some (2 : Int)))
  (nxO (some (wi (x2 + (1 : Int))))))
  (dnO (some x2))
noncomputable def S97 (a0 : ByteArray) : Option Int :=
  jn (σ := Bool) (α := Int) (br (decide (a0 = (⟨#[]⟩ : ByteArray)))
  (inlO (some true))
  (inlO (some (decide ((8 : Int) < ((ByteArray.size a0 : Nat) : Int)))))) fun x1 =>
  br x1
  (some (2 : Int))
  (lp (S97_L1 a0) (0 : Int) fun x6 =>
  some (0 : Int))
theorem s97 (a0 : ByteArray) : tf97.run [] [.str] .int a0 = S97 a0 := by kernel_rfl
noncomputable def P97 (a0 : ByteArray) : Option Int := S97 a0
noncomputable def k97 : CSpec := ⟨97, [.str], .int, fun x => P97 x, false, []⟩
theorem r97 {S : Seat} (h : Ok1 S 97 tf97) : Rt S k97 := fun x y hy =>
  Ok1.sound h (C := []) CSound.nil rfl rfl rfl ((s97 x).trans hy) rfl

/- tallyhall/tallyref1.Dim -/
def tc95 : TCode :=
  .seq (.region [
  ⟨some 1, .box (.t 0), none, []⟩,
  ⟨some 2, .mov (.c (.int .i64 0)), none, []⟩,
  ⟨some 3, .mov (.c (.int .i64 0)), none, []⟩] [] false)
  (.seq (.seq (.region [
  ⟨some 6, .fa 0 (.t 1), none, []⟩,
  ⟨some 7, .load none (.t 6), none, []⟩,
  ⟨some 8, .call false [] 97 [(.t 7)], none, []⟩,
  ⟨some 9, .bin .int .neq (.t 8) (.c (.int .i64 0)), none, []⟩] [] false)
  (.cond (.t 9)
    (.seq (.region [
  ⟨some 2, .mov (.c (.int .i64 (-1))), none, []⟩,
  ⟨some 3, .mov (.c (.int .i64 2)), none, []⟩] [] false)
    (.ret))
    (.skip)))
  (.seq (.seq (.regionJ ⟨[.slot 17 .bool], [10, 11, 12, 13, 14, 15, 16], [], []⟩ [
  ⟨some 10, .fa 1 (.t 1), none, []⟩,
  ⟨some 11, .load none (.t 10), none, []⟩,
  ⟨some 12, .bin .int .lss (.t 11) (.c (.int .i64 0)), none, []⟩,
  ⟨some 13, .mov (.t 12), none, []⟩,
  ⟨some 14, .fa 1 (.t 1), (some (13, false)), []⟩,
  ⟨some 15, .load none (.t 14), (some (13, false)), []⟩,
  ⟨some 16, .bin .int .gtr (.t 15) (.c (.int .i64 9)), (some (13, false)), []⟩,
  ⟨some 17, .pick (.t 13) (.c (.bool true)) (.t 16), none, []⟩] [] false)
  (.cond (.t 17)
    (.seq (.region [
  ⟨some 2, .mov (.c (.int .i64 (-1))), none, []⟩,
  ⟨some 3, .mov (.c (.int .i64 1)), none, []⟩] [] false)
    (.ret))
    (.skip)))
  (.seq (.seq (.region [
  ⟨some 18, .fa 2 (.t 1), none, []⟩,
  ⟨some 19, .load none (.t 18), none, []⟩,
  ⟨some 20, .len false (.t 19), none, []⟩,
  ⟨some 21, .bin .int .gtr (.t 20) (.c (.int .i64 12)), none, []⟩] [] false)
  (.cond (.t 21)
    (.seq (.region [
  ⟨some 2, .mov (.c (.int .i64 (-1))), none, []⟩,
  ⟨some 3, .mov (.c (.int .i64 4)), none, []⟩] [] false)
    (.ret))
    (.skip)))
  (.seq (.seq (.region [
  ⟨some 22, .fa 2 (.t 1), none, []⟩,
  ⟨some 23, .load none (.t 22), none, []⟩,
  ⟨some 24, .len false (.t 23), none, []⟩,
  ⟨some 25, .bin .int .eql (.t 24) (.c (.int .i64 0)), none, []⟩] [] false)
  (.cond (.t 25)
    (.seq (.region [
  ⟨some 2, .mov (.c (.int .i64 (-1))), none, []⟩,
  ⟨some 3, .mov (.c (.int .i64 5)), none, []⟩] [] false)
    (.ret))
    (.skip)))
  (.seq (.seq (.region [
  ⟨some 4, .mov (.c (.int .i64 0)), none, []⟩] [] false)
  (.loop ⟨[.slot 4 .int], [5, 26, 27, 28, 29, 30, 31, 32, 33, 34, 35, 36, 37, 38, 39, 40, 41, 43, 44, 45, 46, 47, 48, 50, 51, 52, 53, 54, 55, 56, 57, 58, 60, 61, 62, 63, 64, 65, 66, 67, 68, 69, 70, 71, 72, 74, 75, 76, 77, 78, 79, 80, 81, 83, 84, 85, 86], [5], []⟩ 0 (.seq (.seq (.region [
  ⟨some 26, .mov (.t 4), none, []⟩,
  ⟨some 27, .fa 2 (.t 1), none, []⟩,
  ⟨some 28, .load none (.t 27), none, []⟩,
  ⟨some 29, .len false (.t 28), none, []⟩,
  ⟨some 30, .bin .int .lss (.t 26) (.t 29), none, []⟩] [] false)
    (.cond (.t 30)
      (.skip)
      (.exit 0)))
    (.seq (.block 1 (.seq (.region [
  ⟨some 33, .fa 2 (.t 1), none, []⟩,
  ⟨some 34, .load none (.t 33), none, []⟩,
  ⟨some 35, .mov (.t 4), none, []⟩,
  ⟨some 36, .ia 4 (.t 34) (.t 35), none, []⟩,
  ⟨some 37, .load (some 4) (.t 36), none, []⟩,
  ⟨some 5, .alloc [.string ⟨#[]⟩, .int .i64 0, .int .i64 0, .string ⟨#[]⟩], none, []⟩,
  ⟨none, .store 4 (.t 5) (.t 37), none, []⟩] [] false)
      (.seq (.seq (.region [
  ⟨some 38, .fa 0 (.t 5), none, []⟩,
  ⟨some 39, .load none (.t 38), none, []⟩,
  ⟨some 40, .call false [] 97 [(.t 39)], none, []⟩,
  ⟨some 41, .bin .int .neq (.t 40) (.c (.int .i64 0)), none, []⟩] [] false)
      (.cond (.t 41)
        (.seq (.region [
  ⟨some 42, .mov (.t 4), none, []⟩,
  ⟨some 2, .mov (.t 42), none, []⟩,
  ⟨some 3, .mov (.c (.int .i64 2)), none, []⟩] [] false)
        (.ret))
        (.skip)))
      (.seq (.seq (.region [
  ⟨some 43, .load (some 3) (.t 1), none, []⟩,
  ⟨some 44, .fa 0 (.t 5), none, []⟩,
  ⟨some 45, .load none (.t 44), none, []⟩,
  ⟨some 46, .call false [] 96 [(.t 43), (.t 45)], none, []⟩,
  ⟨some 47, .mov (.t 4), none, []⟩,
  ⟨some 48, .bin .int .lss (.t 46) (.t 47), none, []⟩] [] false)
      (.cond (.t 48)
        (.seq (.region [
  ⟨some 49, .mov (.t 4), none, []⟩,
  ⟨some 2, .mov (.t 49), none, []⟩,
  ⟨some 3, .mov (.c (.int .i64 7)), none, []⟩] [] false)
        (.ret))
        (.skip)))
      (.seq (.seq (.regionJ ⟨[.slot 58 .bool], [50, 51, 52, 53, 54, 55, 56, 57], [], []⟩ [
  ⟨some 50, .fa 1 (.t 5), none, []⟩,
  ⟨some 51, .load none (.t 50), none, []⟩,
  ⟨some 52, .bin .int .lss (.t 51) (.c (.int .i64 (-1))), none, []⟩,
  ⟨some 53, .mov (.t 52), none, []⟩,
  ⟨some 54, .fa 1 (.t 5), (some (53, false)), []⟩,
  ⟨some 55, .load none (.t 54), (some (53, false)), []⟩,
  ⟨some 56, .mov (.t 4), (some (53, false)), []⟩,
  ⟨some 57, .bin .int .geq (.t 55) (.t 56), (some (53, false)), []⟩,
  ⟨some 58, .pick (.t 53) (.c (.bool true)) (.t 57), none, []⟩] [] false)
      (.cond (.t 58)
        (.seq (.region [
  ⟨some 59, .mov (.t 4), none, []⟩,
  ⟨some 2, .mov (.t 59), none, []⟩,
  ⟨some 3, .mov (.c (.int .i64 1)), none, []⟩] [] false)
        (.ret))
        (.skip)))
      (.seq (.seq (.regionJ ⟨[.slot 72 .bool], [60, 61, 62, 63, 64, 65, 66, 67, 68, 69, 70, 71], [], []⟩ [
  ⟨some 60, .fa 1 (.t 5), none, []⟩,
  ⟨some 61, .load none (.t 60), none, []⟩,
  ⟨some 62, .bin .int .geq (.t 61) (.c (.int .i64 0)), none, []⟩,
  ⟨some 63, .mov (.t 62), none, []⟩,
  ⟨some 64, .fa 2 (.t 1), (some (63, true)), []⟩,
  ⟨some 65, .load none (.t 64), (some (63, true)), []⟩,
  ⟨some 66, .fa 1 (.t 5), (some (63, true)), []⟩,
  ⟨some 67, .load none (.t 66), (some (63, true)), []⟩,
  ⟨some 68, .ia 4 (.t 65) (.t 67), (some (63, true)), []⟩,
  ⟨some 69, .fa 3 (.t 68), (some (63, true)), []⟩,
  ⟨some 70, .load none (.t 69), (some (63, true)), []⟩,
  ⟨some 71, .bin .str .neq (.t 70) (.c (.string ⟨#[]⟩)), (some (63, true)), []⟩,
  ⟨some 72, .pick (.t 63) (.t 71) (.c (.bool false)), none, []⟩] [] false)
      (.cond (.t 72)
        (.seq (.region [
  ⟨some 73, .mov (.t 4), none, []⟩,
  ⟨some 2, .mov (.t 73), none, []⟩,
  ⟨some 3, .mov (.c (.int .i64 6)), none, []⟩] [] false)
        (.ret))
        (.skip)))
      (.seq (.seq (.regionJ ⟨[.slot 81 .bool], [74, 75, 76, 77, 78, 79, 80], [], []⟩ [
  ⟨some 74, .fa 2 (.t 5), none, []⟩,
  ⟨some 75, .load none (.t 74), none, []⟩,
  ⟨some 76, .bin .int .lss (.t 75) (.c (.int .i64 (-1))), none, []⟩,
  ⟨some 77, .mov (.t 76), none, []⟩,
  ⟨some 78, .fa 2 (.t 5), (some (77, false)), []⟩,
  ⟨some 79, .load none (.t 78), (some (77, false)), []⟩,
  ⟨some 80, .bin .int .gtr (.t 79) (.c (.int .i64 1)), (some (77, false)), []⟩,
  ⟨some 81, .pick (.t 77) (.c (.bool true)) (.t 80), none, []⟩] [] false)
      (.cond (.t 81)
        (.seq (.region [
  ⟨some 82, .mov (.t 4), none, []⟩,
  ⟨some 2, .mov (.t 82), none, []⟩,
  ⟨some 3, .mov (.c (.int .i64 1)), none, []⟩] [] false)
        (.ret))
        (.skip)))
      (.seq (.region [
  ⟨some 83, .fa 3 (.t 5), none, []⟩,
  ⟨some 84, .load none (.t 83), none, []⟩,
  ⟨some 85, .len true (.t 84), none, []⟩,
  ⟨some 86, .bin .int .gtr (.t 85) (.c (.int .i64 100)), none, []⟩] [] false)
      (.cond (.t 86)
        (.seq (.region [
  ⟨some 87, .mov (.t 4), none, []⟩,
  ⟨some 2, .mov (.t 87), none, []⟩,
  ⟨some 3, .mov (.c (.int .i64 4)), none, []⟩] [] false)
        (.ret))
        (.skip))))))))))
    (.region [
  ⟨some 31, .mov (.t 4), none, []⟩,
  ⟨some 32, .bin .int .add (.t 31) (.c (.int .i64 1)), none, []⟩,
  ⟨some 4, .mov (.t 32), none, []⟩] [] false)))))
  (.seq (.region [
  ⟨some 2, .mov (.c (.int .i64 (-1))), none, []⟩,
  ⟨some 3, .mov (.c (.int .i64 0)), none, []⟩] [] false)
  (.ret)))))))
def tf95 : TFunc := { np := 1, nt := 88, res := [.tmp 2, .tmp 3], own := false, body := tc95 }
noncomputable def S95_L1 (F96 : Dim → ByteArray → (Option Int)) (F97 : ByteArray → (Option Int)) (a0 : Dim) (x3 : Int) : Option (LR Int (Int × Int)) :=
  br (decide (x3 < ((List.length (Dim.members a0) : Nat) : Int)))
  (bno (lookI (Dim.members a0) x3) fun y4 =>
  bno (F97 (Member.name y4)) fun y5 =>
  br (decide (¬ y5 = (0 : Int)))
  (finO (some (x3, (2 : Int))))
  (bno (F96 a0 (Member.name y4)) fun y6 =>
  br (decide (y6 < x3))
  (finO (some (x3, (7 : Int))))
  (jn (σ := Bool) (α := (LR Int (Int × Int))) (br (decide ((Member.parent y4) < (-1 : Int)))
  (inlO (some true))
  (inlO (some (decide (x3 ≤ (Member.parent y4)))))) fun x7 =>
  br x7
  (finO (some (x3, (1 : Int))))
  (jn (σ := Bool) (α := (LR Int (Int × Int))) (br (decide ((0 : Int) ≤ (Member.parent y4)))
  (bno (lookI (Dim.members a0) (Member.parent y4)) fun y8 =>
  inlO (some (decide (¬ (Member.formula y8) = (⟨#[]⟩ : ByteArray)))))
  (inlO (some false))) fun x9 =>
  br x9
  (finO (some (x3, (6 : Int))))
  (jn (σ := Bool) (α := (LR Int (Int × Int))) (br (decide ((Member.sign y4) < (-1 : Int)))
  (inlO (some true))
  (inlO (some (decide ((1 : Int) < (Member.sign y4)))))) fun x10 =>
  br x10
  (finO (some (x3, (1 : Int))))
  (br (decide ((100 : Int) < ((ByteArray.size (Member.formula y4) : Nat) : Int)))
  (finO (some (x3, (4 : Int))))
  (nxO (some (wi (x3 + (1 : Int)))))))))))
  (dnO (some x3))
noncomputable def S95 (F96 : Dim → ByteArray → (Option Int)) (F97 : ByteArray → (Option Int)) (a0 : Dim) : Option (Int × Int) :=
  bno (F97 (Dim.name a0)) fun y1 =>
  br (decide (¬ y1 = (0 : Int)))
  (some ((-1 : Int), (2 : Int)))
  (jn (σ := Bool) (α := (Int × Int)) (br (decide ((Dim.solve a0) < (0 : Int)))
  (inlO (some true))
  (inlO (some (decide ((9 : Int) < (Dim.solve a0)))))) fun x2 =>
  br x2
  (some ((-1 : Int), (1 : Int)))
  (br (decide ((12 : Int) < ((List.length (Dim.members a0) : Nat) : Int)))
  (some ((-1 : Int), (4 : Int)))
  (br (decide (((List.length (Dim.members a0) : Nat) : Int) = (0 : Int)))
  (some ((-1 : Int), (5 : Int)))
  (lp (S95_L1 F96 F97 a0) (0 : Int) fun x11 =>
  some ((-1 : Int), (0 : Int))))))
theorem s95 (F96 : Dim → ByteArray → (Option Int)) (F97 : ByteArray → (Option Int)) (a0 : Dim) : tf95.run [⟨96, [(.st .dim), .str], .int, fun x => F96 x.1 x.2, false, []⟩,
  ⟨97, [.str], .int, fun x => F97 x, false, []⟩] [(.st .dim)] (.tp [.int, .int]) a0 = S95 F96 F97 a0 := by kernel_rfl
noncomputable def P95 (a0 : Dim) : Option (Int × Int) := S95 P96 P97 a0
noncomputable def k95 : CSpec := ⟨95, [(.st .dim)], (.tp [.int, .int]), fun x => P95 x, false, []⟩
theorem r95 {S : Seat} (h : Ok1 S 95 tf95) (h96 : Rt S k96) (h97 : Rt S k97) : Rt S k95 := fun x y hy =>
  Ok1.sound h (C := [k96, k97]) (CSound.cons h96 (CSound.cons h97 CSound.nil)) rfl rfl rfl ((s95 P96 P97 x).trans hy) rfl

/- tallyhall/tallyref1.Outline -/
def tc94 : TCode :=
  .seq (.region [
  ⟨some 1, .box (.t 0), none, []⟩,
  ⟨some 2, .mov (.c (.int .i64 0)), none, []⟩,
  ⟨some 3, .mov (.c (.int .i64 0)), none, []⟩,
  ⟨some 4, .mov (.c (.int .i64 0)), none, []⟩] [] false)
  (.seq (.seq (.region [
  ⟨some 9, .fa 0 (.t 1), none, []⟩,
  ⟨some 10, .load none (.t 9), none, []⟩,
  ⟨some 11, .len false (.t 10), none, []⟩,
  ⟨some 12, .bin .int .gtr (.t 11) (.c (.int .i64 4)), none, []⟩] [] false)
  (.cond (.t 12)
    (.seq (.region [
  ⟨some 2, .mov (.c (.int .i64 (-1))), none, []⟩,
  ⟨some 3, .mov (.c (.int .i64 (-1))), none, []⟩,
  ⟨some 4, .mov (.c (.int .i64 4)), none, []⟩] [] false)
    (.ret))
    (.skip)))
  (.seq (.seq (.region [
  ⟨some 13, .fa 0 (.t 1), none, []⟩,
  ⟨some 14, .load none (.t 13), none, []⟩,
  ⟨some 15, .len false (.t 14), none, []⟩,
  ⟨some 16, .bin .int .eql (.t 15) (.c (.int .i64 0)), none, []⟩] [] false)
  (.cond (.t 16)
    (.seq (.region [
  ⟨some 2, .mov (.c (.int .i64 (-1))), none, []⟩,
  ⟨some 3, .mov (.c (.int .i64 (-1))), none, []⟩,
  ⟨some 4, .mov (.c (.int .i64 5)), none, []⟩] [] false)
    (.ret))
    (.skip)))
  (.seq (.seq (.region [
  ⟨some 5, .mov (.c (.int .i64 0)), none, []⟩] [] false)
  (.loop ⟨[.slot 5 .int], [6, 7, 8, 17, 18, 19, 20, 21, 22, 23, 24, 25, 26, 27, 28, 29, 30, 31, 32, 33, 34, 35, 36, 37, 38, 39, 40, 41, 42, 43, 44, 45, 46, 47, 48, 49, 50, 51, 52, 53, 54, 55, 56], [], []⟩ 0 (.seq (.seq (.region [
  ⟨some 17, .mov (.t 5), none, []⟩,
  ⟨some 18, .fa 0 (.t 1), none, []⟩,
  ⟨some 19, .load none (.t 18), none, []⟩,
  ⟨some 20, .len false (.t 19), none, []⟩,
  ⟨some 21, .bin .int .lss (.t 17) (.t 20), none, []⟩] [] false)
    (.cond (.t 21)
      (.skip)
      (.exit 0)))
    (.seq (.block 1 (.seq (.region [
  ⟨some 25, .fa 0 (.t 1), none, []⟩,
  ⟨some 26, .load none (.t 25), none, []⟩,
  ⟨some 27, .mov (.t 5), none, []⟩,
  ⟨some 28, .ia 3 (.t 26) (.t 27), none, []⟩,
  ⟨some 29, .load (some 3) (.t 28), none, []⟩,
  ⟨some 30, .call false [] 95 [(.t 29)], none, []⟩,
  ⟨some 24, .mov (.t 30), none, []⟩,
  ⟨some 31, .ext (.t 24) 0, none, []⟩,
  ⟨some 32, .ext (.t 24) 1, none, []⟩,
  ⟨some 6, .mov (.t 31), none, []⟩,
  ⟨some 7, .mov (.t 32), none, []⟩] [] false)
      (.seq (.seq (.region [
  ⟨some 8, .mov (.c (.int .i64 0)), none, []⟩] [] false)
      (.loop ⟨[.slot 7 .int, .slot 8 .int], [33, 34, 35, 36, 37, 38, 39, 40, 41, 42, 43, 44, 45, 46, 47, 48, 49, 50, 51, 52, 53, 54], [], []⟩ 2 (.seq (.seq (.regionJ ⟨[.slot 39 .bool], [33, 34, 35, 36, 37, 38], [], []⟩ [
  ⟨some 33, .mov (.t 8), none, []⟩,
  ⟨some 34, .mov (.t 5), none, []⟩,
  ⟨some 35, .bin .int .lss (.t 33) (.t 34), none, []⟩,
  ⟨some 36, .mov (.t 35), none, []⟩,
  ⟨some 37, .mov (.t 7), (some (36, true)), []⟩,
  ⟨some 38, .bin .int .eql (.t 37) (.c (.int .i64 0)), (some (36, true)), []⟩,
  ⟨some 39, .pick (.t 36) (.t 38) (.c (.bool false)), none, []⟩] [] false)
        (.cond (.t 39)
          (.skip)
          (.exit 2)))
        (.seq (.block 3 (.seq (.region [
  ⟨some 42, .fa 0 (.t 1), none, []⟩,
  ⟨some 43, .load none (.t 42), none, [0]⟩,
  ⟨some 44, .mov (.t 8), none, []⟩,
  ⟨some 45, .ia 3 (.t 43) (.t 44), none, [1, 2]⟩,
  ⟨some 46, .fa 0 (.t 45), none, [3]⟩,
  ⟨some 47, .load none (.t 46), none, [4]⟩,
  ⟨some 48, .fa 0 (.t 1), none, []⟩,
  ⟨some 49, .load none (.t 48), none, [6]⟩,
  ⟨some 50, .mov (.t 5), none, []⟩,
  ⟨some 51, .ia 3 (.t 49) (.t 50), none, [7, 8]⟩,
  ⟨some 52, .fa 0 (.t 51), none, [9]⟩,
  ⟨some 53, .load none (.t 52), none, [10]⟩,
  ⟨some 54, .bin .str .eql (.t 47) (.t 53), none, [5, 11]⟩] [] true)
          (.condJ ⟨[.slot 7 .int], [], [], []⟩ (.t 54)
            (.region [
  ⟨some 7, .mov (.c (.int .i64 7)), none, []⟩] [] false)
            (.skip))))
        (.region [
  ⟨some 40, .mov (.t 8), none, []⟩,
  ⟨some 41, .bin .int .add (.t 40) (.c (.int .i64 1)), none, []⟩,
  ⟨some 8, .mov (.t 41), none, []⟩] [] false)))))
      (.seq (.region [
  ⟨some 55, .mov (.t 7), none, []⟩,
  ⟨some 56, .bin .int .neq (.t 55) (.c (.int .i64 0)), none, []⟩] [] false)
      (.cond (.t 56)
        (.seq (.region [
  ⟨some 57, .mov (.t 5), none, []⟩,
  ⟨some 58, .mov (.t 6), none, []⟩,
  ⟨some 59, .mov (.t 7), none, []⟩,
  ⟨some 2, .mov (.t 57), none, []⟩,
  ⟨some 3, .mov (.t 58), none, []⟩,
  ⟨some 4, .mov (.t 59), none, []⟩] [] false)
        (.ret))
        (.skip))))))
    (.region [
  ⟨some 22, .mov (.t 5), none, []⟩,
  ⟨some 23, .bin .int .add (.t 22) (.c (.int .i64 1)), none, []⟩,
  ⟨some 5, .mov (.t 23), none, []⟩] [] false)))))
  (.seq (.seq (.region [
  ⟨some 60, .load (some 1) (.t 1), none, []⟩,
  ⟨some 61, .call false [] 106 [(.t 60)], none, []⟩,
  ⟨some 62, .bin .int .gtr (.t 61) (.c (.int .i64 3000)), none, []⟩] [] false)
  (.cond (.t 62)
    (.seq (.region [
  ⟨some 2, .mov (.c (.int .i64 (-1))), none, []⟩,
  ⟨some 3, .mov (.c (.int .i64 (-1))), none, []⟩,
  ⟨some 4, .mov (.c (.int .i64 4)), none, []⟩] [] false)
    (.ret))
    (.skip)))
  (.seq (.region [
  ⟨some 2, .mov (.c (.int .i64 (-1))), none, []⟩,
  ⟨some 3, .mov (.c (.int .i64 (-1))), none, []⟩,
  ⟨some 4, .mov (.c (.int .i64 0)), none, []⟩] [] false)
  (.ret))))))
def tf94 : TFunc := { np := 1, nt := 63, res := [.tmp 2, .tmp 3, .tmp 4], own := false, body := tc94 }
noncomputable def S94_L1 (a0 : (List Dim)) (x1 : Int) (x4 : (Int × Int)) : Option (LR (Int × Int) (LR Int (Int × Int × Int))) :=
  jn (σ := Bool) (α := (LR (Int × Int) (LR Int (Int × Int × Int)))) (br (decide (x4.2 < x1))
  (inlO (some (decide (x4.1 = (0 : Int)))))
  (inlO (some false))) fun x5 =>
  br x5
  (bno (lookI a0 x4.2) fun y6 =>
  bno (lookI a0 x1) fun y7 =>
  jn (σ := Int) (α := (LR (Int × Int) (LR Int (Int × Int × Int)))) (br (decide ((Dim.name y6) = (Dim.name y7)))
  (inlO (some (7 : Int)))
  (inlO (some x4.1))) fun x8 =>
  nxO (some (x8, wi (x4.2 + (1 : Int)))))
  (dnO (some (x4.1, x4.2)))
noncomputable def S94_L2 (F95 : Dim → (Option (Int × Int))) (a0 : (List Dim)) (x1 : Int) : Option (LR Int (Int × Int × Int)) :=
  br (decide (x1 < ((List.length a0 : Nat) : Int)))
  (bno (lookI a0 x1) fun y2 =>
  bno (F95 y2) fun y3 =>
  lp (S94_L1 a0 x1) (y3.2, (0 : Int)) fun x9 =>
  br (decide (¬ x9.1 = (0 : Int)))
  (finO (some (x1, y3.1, x9.1)))
  (nxO (some (wi (x1 + (1 : Int))))))
  (dnO (some x1))
noncomputable def S94 (F106 : (List Dim) → (Option Int)) (F95 : Dim → (Option (Int × Int))) (a0 : (List Dim)) : Option (Int × Int × Int) :=
  br (decide ((4 : Int) < ((List.length a0 : Nat) : Int)))
  (some ((-1 : Int), (-1 : Int), (4 : Int)))
  (br (decide (((List.length a0 : Nat) : Int) = (0 : Int)))
  (some ((-1 : Int), (-1 : Int), (5 : Int)))
  (lp (S94_L2 F95 a0) (0 : Int) fun x10 =>
  bno (F106 a0) fun y11 =>
  br (decide ((3000 : Int) < y11))
  (some ((-1 : Int), (-1 : Int), (4 : Int)))
  (some ((-1 : Int), (-1 : Int), (0 : Int)))))
theorem s94 (F106 : (List Dim) → (Option Int)) (F95 : Dim → (Option (Int × Int))) (a0 : (List Dim)) : tf94.run [⟨106, [(.st .outl)], .int, fun x => F106 x, false, []⟩,
  ⟨95, [(.st .dim)], (.tp [.int, .int]), fun x => F95 x, false, []⟩] [(.st .outl)] (.tp [.int, .int, .int]) a0 = S94 F106 F95 a0 := by kernel_rfl
noncomputable def P94 (a0 : (List Dim)) : Option (Int × Int × Int) := S94 P106 P95 a0
noncomputable def k94 : CSpec := ⟨94, [(.st .outl)], (.tp [.int, .int, .int]), fun x => P94 x, false, []⟩
theorem r94 {S : Seat} (h : Ok1 S 94 tf94) (h106 : Rt S k106) (h95 : Rt S k95) : Rt S k94 := fun x y hy =>
  Ok1.sound h (C := [k106, k95]) (CSound.cons h106 (CSound.cons h95 CSound.nil)) rfl rfl rfl ((s94 P106 P95 x).trans hy) rfl

/- tallyhall/tallyref1.Parts -/
def tc100 : TCode :=
  .seq (.region [
  ⟨some 2, .box (.t 0), none, []⟩,
  ⟨some 4, .mov (.c (.slice none 0 0)), none, []⟩] [] false)
  (.seq (.region [
  ⟨some 5, .mov (.c (.slice none 0 0)), none, []⟩] [] false)
  (.seq (.seq (.region [
  ⟨some 6, .mov (.c (.int .i64 0)), none, []⟩] [] false)
  (.loop ⟨[.row 5 25 .int, .slot 6 .int], [7, 8, 9, 10, 11, 12, 13, 14, 15, 16, 17, 18, 19, 20, 21, 22, 23, 24, 25], [24], []⟩ 0 (.seq (.seq (.region [
  ⟨some 7, .mov (.t 6), none, []⟩,
  ⟨some 8, .fa 2 (.t 2), none, []⟩,
  ⟨some 9, .load none (.t 8), none, []⟩,
  ⟨some 10, .len false (.t 9), none, []⟩,
  ⟨some 11, .bin .int .lss (.t 7) (.t 10), none, []⟩] [] false)
    (.cond (.t 11)
      (.skip)
      (.exit 0)))
    (.seq (.block 1 (.seq (.region [
  ⟨some 14, .fa 2 (.t 2), none, []⟩,
  ⟨some 15, .load none (.t 14), none, []⟩,
  ⟨some 16, .mov (.t 6), none, []⟩,
  ⟨some 17, .ia 4 (.t 15) (.t 16), none, []⟩,
  ⟨some 18, .fa 1 (.t 17), none, []⟩,
  ⟨some 19, .load none (.t 18), none, []⟩,
  ⟨some 20, .mov (.t 1), none, []⟩,
  ⟨some 21, .bin .int .eql (.t 19) (.t 20), none, []⟩] [] false)
      (.condJ ⟨[.row 5 25 .int], [22, 23, 24, 25], [24], []⟩ (.t 21)
        (.region [
  ⟨some 22, .mov (.t 5), none, []⟩,
  ⟨some 23, .mov (.t 6), none, []⟩,
  ⟨some 24, .bslice false 1 [.int .i64 0] 1 [(0, (.t 23))], none, []⟩,
  ⟨some 25, .app 1 (.t 22) (.t 24), none, []⟩,
  ⟨some 5, .mov (.t 25), none, []⟩] [] false)
        (.skip))))
    (.region [
  ⟨some 12, .mov (.t 6), none, []⟩,
  ⟨some 13, .bin .int .add (.t 12) (.c (.int .i64 1)), none, []⟩,
  ⟨some 6, .mov (.t 13), none, []⟩] [] false)))))
  (.seq (.region [
  ⟨some 26, .mov (.t 5), none, []⟩,
  ⟨some 4, .mov (.t 26), none, []⟩] [] false)
  (.ret))))
def tf100 : TFunc := { np := 2, nt := 27, res := [.tmp 4], own := false, body := tc100 }
noncomputable def S100_L1 (a0 : Dim) (a1 : Int) (x1 : ((List Int) × Int)) : Option (LR ((List Int) × Int) (List Int)) :=
  br (decide (x1.2 < ((List.length (Dim.members a0) : Nat) : Int)))
  (bno (lookI (Dim.members a0) x1.2) fun y2 =>
  jn (σ := (List Int)) (α := (LR ((List Int) × Int) (List Int))) (br (decide ((Member.parent y2) = a1))
  (ck (decide (List.length x1.1 + List.length ([x1.2] : List Int) ≤ roomA)) <|
  inlO (some (x1.1 ++ ([x1.2] : List Int))))
  (inlO (some x1.1))) fun x3 =>
  nxO (some (x3, wi (x1.2 + (1 : Int)))))
  (dnO (some (x1.1, x1.2)))
noncomputable def S100 (a0 : Dim) (a1 : Int) : Option (List Int) :=
  lp (S100_L1 a0 a1) (([] : List Int), (0 : Int)) fun x4 =>
  some x4.1
theorem s100 (a0 : Dim) (a1 : Int) : tf100.run [] [(.st .dim), .int] (.sl .int) (a0, a1) = S100 a0 a1 := by kernel_rfl
noncomputable def P100 (a0 : Dim) (a1 : Int) : Option (List Int) := S100 a0 a1
noncomputable def k100 : CSpec := ⟨100, [(.st .dim), .int], (.sl .int), fun x => P100 x.1 x.2, false, []⟩
theorem r100 {S : Seat} (h : Ok1 S 100 tf100) : Rt S k100 := fun x y hy =>
  Ok1.sound h (C := []) CSound.nil rfl rfl rfl ((s100 x.1 x.2).trans hy) rfl

/- tallyhall/tallyref1.Leaf -/
def tc102 : TCode :=
  .seq (.region [
  ⟨some 2, .box (.t 0), none, []⟩,
  ⟨some 4, .mov (.c (.bool false)), none, []⟩] [] false)
  (.seq (.regionJ ⟨[.slot 4 .bool], [5, 6, 7, 8, 9, 10, 11, 12, 13, 14, 15, 16, 17, 18], [], []⟩ [
  ⟨some 5, .fa 2 (.t 2), none, []⟩,
  ⟨some 6, .load none (.t 5), none, []⟩,
  ⟨some 7, .mov (.t 1), none, []⟩,
  ⟨some 8, .ia 4 (.t 6) (.t 7), none, []⟩,
  ⟨some 9, .fa 3 (.t 8), none, []⟩,
  ⟨some 10, .load none (.t 9), none, []⟩,
  ⟨some 11, .bin .str .eql (.t 10) (.c (.string ⟨#[]⟩)), none, []⟩,
  ⟨some 12, .mov (.t 11), none, []⟩,
  ⟨some 13, .load (some 3) (.t 2), (some (12, true)), []⟩,
  ⟨some 14, .mov (.t 1), (some (12, true)), []⟩,
  ⟨some 15, .call true [] 100 [(.t 13), (.t 14)], (some (12, true)), []⟩,
  ⟨some 16, .len false (.t 15), (some (12, true)), []⟩,
  ⟨some 17, .bin .int .eql (.t 16) (.c (.int .i64 0)), (some (12, true)), []⟩,
  ⟨some 18, .pick (.t 12) (.t 17) (.c (.bool false)), none, []⟩,
  ⟨some 4, .mov (.t 18), none, []⟩] [] false)
  (.ret))
def tf102 : TFunc := { np := 2, nt := 19, res := [.tmp 4], own := false, body := tc102 }
noncomputable def S102 (F100 : Dim → Int → (Option (List Int))) (a0 : Dim) (a1 : Int) : Option Bool :=
  jn (σ := Bool) (α := Bool) (bno (lookI (Dim.members a0) a1) fun y1 =>
  br (decide ((Member.formula y1) = (⟨#[]⟩ : ByteArray)))
  (bno (F100 a0 a1) fun y2 =>
  inlO (some (decide (((List.length y2 : Nat) : Int) = (0 : Int)))))
  (inlO (some false))) fun x3 =>
  some x3
theorem s102 (F100 : Dim → Int → (Option (List Int))) (a0 : Dim) (a1 : Int) : tf102.run [⟨100, [(.st .dim), .int], (.sl .int), fun x => F100 x.1 x.2, false, []⟩] [(.st .dim), .int] .bool (a0, a1) = S102 F100 a0 a1 := by kernel_rfl
noncomputable def P102 (a0 : Dim) (a1 : Int) : Option Bool := S102 P100 a0 a1
noncomputable def k102 : CSpec := ⟨102, [(.st .dim), .int], .bool, fun x => P102 x.1 x.2, false, []⟩
theorem r102 {S : Seat} (h : Ok1 S 102 tf102) (h100 : Rt S k100) : Rt S k102 := fun x y hy =>
  Ok1.sound h (C := [k100]) (CSound.cons h100 CSound.nil) rfl rfl rfl ((s102 P100 x.1 x.2).trans hy) rfl

/- tallyhall/tallyref1.Weight -/
def tc103 : TCode :=
  .seq (.region [
  ⟨some 3, .box (.t 0), none, []⟩,
  ⟨some 6, .mov (.c (.int .i64 0)), none, []⟩,
  ⟨some 7, .mov (.c (.bool false)), none, []⟩] [] false)
  (.seq (.region [
  ⟨some 8, .mov (.c (.int .i64 1)), none, []⟩] [] false)
  (.seq (.loop ⟨[.slot 2 .int, .slot 8 .int], [9, 10, 11, 12, 13, 14, 15, 16, 17, 18, 19, 20, 21, 22, 23, 24, 25, 26, 27], [], []⟩ 0 (.seq (.seq (.region [
  ⟨some 9, .mov (.t 2), none, []⟩,
  ⟨some 10, .mov (.t 1), none, []⟩,
  ⟨some 11, .bin .int .neq (.t 9) (.t 10), none, []⟩] [] false)
    (.cond (.t 11)
      (.skip)
      (.exit 0)))
    (.block 1 (.seq (.seq (.region [
  ⟨some 12, .mov (.t 2), none, []⟩,
  ⟨some 13, .bin .int .lss (.t 12) (.c (.int .i64 0)), none, []⟩] [] false)
      (.cond (.t 13)
        (.seq (.region [
  ⟨some 6, .mov (.c (.int .i64 0)), none, []⟩,
  ⟨some 7, .mov (.c (.bool false)), none, []⟩] [] false)
        (.ret))
        (.skip)))
      (.seq (.region [
  ⟨some 14, .mov (.t 8), none, []⟩,
  ⟨some 15, .fa 2 (.t 3), none, []⟩,
  ⟨some 16, .load none (.t 15), none, []⟩,
  ⟨some 17, .mov (.t 2), none, []⟩,
  ⟨some 18, .ia 4 (.t 16) (.t 17), none, []⟩,
  ⟨some 19, .fa 2 (.t 18), none, []⟩,
  ⟨some 20, .load none (.t 19), none, []⟩,
  ⟨some 21, .bin .int .mul (.t 14) (.t 20), none, []⟩,
  ⟨some 8, .mov (.t 21), none, []⟩] [] false)
      (.region [
  ⟨some 22, .fa 2 (.t 3), none, []⟩,
  ⟨some 23, .load none (.t 22), none, []⟩,
  ⟨some 24, .mov (.t 2), none, []⟩,
  ⟨some 25, .ia 4 (.t 23) (.t 24), none, []⟩,
  ⟨some 26, .fa 1 (.t 25), none, []⟩,
  ⟨some 27, .load none (.t 26), none, []⟩,
  ⟨some 2, .mov (.t 27), none, []⟩] [] false))))))
  (.seq (.region [
  ⟨some 28, .mov (.t 8), none, []⟩,
  ⟨some 6, .mov (.t 28), none, []⟩,
  ⟨some 7, .mov (.c (.bool true)), none, []⟩] [] false)
  (.ret))))
def tf103 : TFunc := { np := 3, nt := 29, res := [.tmp 6, .tmp 7], own := false, body := tc103 }
noncomputable def S103_L1 (a0 : Dim) (a1 : Int) (x1 : (Int × Int)) : Option (LR (Int × Int) (Int × Bool)) :=
  br (decide (¬ x1.1 = a1))
  (br (decide (x1.1 < (0 : Int)))
  (finO (some ((0 : Int), false)))
  (bno (lookI (Dim.members a0) x1.1) fun y2 =>
  bno (lookI (Dim.members a0) x1.1) fun y3 =>
  nxO (some (Member.parent y3, wi (x1.2 * (Member.sign y2))))))
  (dnO (some (x1.1, x1.2)))
noncomputable def S103 (a0 : Dim) (a1 : Int) (a2 : Int) : Option (Int × Bool) :=
  lp (S103_L1 a0 a1) (a2, (1 : Int)) fun x4 =>
  some (x4.2, true)
theorem s103 (a0 : Dim) (a1 : Int) (a2 : Int) : tf103.run [] [(.st .dim), .int, .int] (.tp [.int, .bool]) (a0, a1, a2) = S103 a0 a1 a2 := by kernel_rfl
noncomputable def P103 (a0 : Dim) (a1 : Int) (a2 : Int) : Option (Int × Bool) := S103 a0 a1 a2
noncomputable def k103 : CSpec := ⟨103, [(.st .dim), .int, .int], (.tp [.int, .bool]), fun x => P103 x.1 x.2.1 x.2.2, false, []⟩
theorem r103 {S : Seat} (h : Ok1 S 103 tf103) : Rt S k103 := fun x y hy =>
  Ok1.sound h (C := []) CSound.nil rfl rfl rfl ((s103 x.1 x.2.1 x.2.2).trans hy) rfl

/- tallyhall/tallyref1.Leafs -/
def tc101 : TCode :=
  .seq (.region [
  ⟨some 2, .box (.t 0), none, []⟩,
  ⟨some 4, .mov (.c (.slice none 0 0)), none, []⟩] [] false)
  (.seq (.region [
  ⟨some 5, .mov (.c (.slice none 0 0)), none, []⟩] [] false)
  (.seq (.seq (.region [
  ⟨some 6, .mov (.c (.int .i64 0)), none, []⟩] [] false)
  (.loop ⟨[.row 5 34 .int, .slot 6 .int], [7, 8, 9, 10, 11, 12, 13, 14, 15, 16, 17, 18, 19, 20, 21, 22, 23, 24, 25, 26, 27, 28, 29, 30, 31, 32, 33, 34], [33], []⟩ 0 (.seq (.seq (.region [
  ⟨some 10, .mov (.t 6), none, []⟩,
  ⟨some 11, .fa 2 (.t 2), none, []⟩,
  ⟨some 12, .load none (.t 11), none, []⟩,
  ⟨some 13, .len false (.t 12), none, []⟩,
  ⟨some 14, .bin .int .lss (.t 10) (.t 13), none, []⟩] [] false)
    (.cond (.t 14)
      (.skip)
      (.exit 0)))
    (.seq (.block 1 (.seq (.region [
  ⟨some 17, .load (some 3) (.t 2), none, []⟩,
  ⟨some 18, .mov (.t 6), none, []⟩,
  ⟨some 19, .call false [] 102 [(.t 17), (.t 18)], none, []⟩,
  ⟨some 7, .mov (.t 19), none, []⟩] [] false)
      (.seq (.region [
  ⟨some 21, .load (some 3) (.t 2), none, []⟩,
  ⟨some 22, .mov (.t 1), none, []⟩,
  ⟨some 23, .mov (.t 6), none, []⟩,
  ⟨some 24, .call false [] 103 [(.t 21), (.t 22), (.t 23)], none, []⟩,
  ⟨some 20, .mov (.t 24), none, []⟩,
  ⟨some 25, .ext (.t 20) 0, none, []⟩,
  ⟨some 26, .ext (.t 20) 1, none, []⟩,
  ⟨some 8, .mov (.t 25), none, []⟩,
  ⟨some 9, .mov (.t 26), none, []⟩] [] false)
      (.seq (.regionJ ⟨[.slot 30 .bool], [27, 28, 29], [], []⟩ [
  ⟨some 27, .mov (.t 7), none, []⟩,
  ⟨some 28, .mov (.t 27), none, []⟩,
  ⟨some 29, .mov (.t 9), (some (28, true)), []⟩,
  ⟨some 30, .pick (.t 28) (.t 29) (.c (.bool false)), none, []⟩] [] false)
      (.condJ ⟨[.row 5 34 .int], [31, 32, 33, 34], [33], []⟩ (.t 30)
        (.region [
  ⟨some 31, .mov (.t 5), none, []⟩,
  ⟨some 32, .mov (.t 6), none, []⟩,
  ⟨some 33, .bslice false 1 [.int .i64 0] 1 [(0, (.t 32))], none, []⟩,
  ⟨some 34, .app 1 (.t 31) (.t 33), none, []⟩,
  ⟨some 5, .mov (.t 34), none, []⟩] [] false)
        (.skip))))))
    (.region [
  ⟨some 15, .mov (.t 6), none, []⟩,
  ⟨some 16, .bin .int .add (.t 15) (.c (.int .i64 1)), none, []⟩,
  ⟨some 6, .mov (.t 16), none, []⟩] [] false)))))
  (.seq (.region [
  ⟨some 35, .mov (.t 5), none, []⟩,
  ⟨some 4, .mov (.t 35), none, []⟩] [] false)
  (.ret))))
def tf101 : TFunc := { np := 2, nt := 36, res := [.tmp 4], own := false, body := tc101 }
noncomputable def S101_L1 (F102 : Dim → Int → (Option Bool)) (F103 : Dim → Int → Int → (Option (Int × Bool))) (a0 : Dim) (a1 : Int) (x1 : ((List Int) × Int)) : Option (LR ((List Int) × Int) (List Int)) :=
  br (decide (x1.2 < ((List.length (Dim.members a0) : Nat) : Int)))
  (bno (F102 a0 x1.2) fun y2 =>
  bno (F103 a0 a1 x1.2) fun y3 =>
  jn (σ := Bool) (α := (LR ((List Int) × Int) (List Int))) (br y2
  (inlO (some y3.2))
  (inlO (some false))) fun x4 =>
  jn (σ := (List Int)) (α := (LR ((List Int) × Int) (List Int))) (br x4
  (ck (decide (List.length x1.1 + List.length ([x1.2] : List Int) ≤ roomA)) <|
  inlO (some (x1.1 ++ ([x1.2] : List Int))))
  (inlO (some x1.1))) fun x5 =>
  nxO (some (x5, wi (x1.2 + (1 : Int)))))
  (dnO (some (x1.1, x1.2)))
noncomputable def S101 (F102 : Dim → Int → (Option Bool)) (F103 : Dim → Int → Int → (Option (Int × Bool))) (a0 : Dim) (a1 : Int) : Option (List Int) :=
  lp (S101_L1 F102 F103 a0 a1) (([] : List Int), (0 : Int)) fun x6 =>
  some x6.1
theorem s101 (F102 : Dim → Int → (Option Bool)) (F103 : Dim → Int → Int → (Option (Int × Bool))) (a0 : Dim) (a1 : Int) : tf101.run [⟨102, [(.st .dim), .int], .bool, fun x => F102 x.1 x.2, false, []⟩,
  ⟨103, [(.st .dim), .int, .int], (.tp [.int, .bool]), fun x => F103 x.1 x.2.1 x.2.2, false, []⟩] [(.st .dim), .int] (.sl .int) (a0, a1) = S101 F102 F103 a0 a1 := by kernel_rfl
noncomputable def P101 (a0 : Dim) (a1 : Int) : Option (List Int) := S101 P102 P103 a0 a1
noncomputable def k101 : CSpec := ⟨101, [(.st .dim), .int], (.sl .int), fun x => P101 x.1 x.2, false, []⟩
theorem r101 {S : Seat} (h : Ok1 S 101 tf101) (h102 : Rt S k102) (h103 : Rt S k103) : Rt S k101 := fun x y hy =>
  Ok1.sound h (C := [k102, k103]) (CSound.cons h102 (CSound.cons h103 CSound.nil)) rfl rfl rfl ((s101 P102 P103 x.1 x.2).trans hy) rfl

end Ab
