import Derived.Test.YtcabflannjeigaaGreatDoorB2
import Derived.KernelRfl
import Derived.Test.YtcabflannjeigaaGreatDoorC1
section
namespace Ab
open Go
set_option linter.unusedVariables false
set_option maxRecDepth 100000

/- tallyhall/tallyref1.Size -/
/- tallyhall/tallyref1.Where -/
/- tallyhall/tallyref1.Name -/
def tc97 : TCode :=
  .seq (.region [
  ⟨some 2, .mov (.c (.int .i64 0)), none, []⟩] [] false)
  (.seq (.seq (.regionJ ⟨[.slot 10 .bool], [4, 5, 6, 7, 8, 9], [], []⟩ [
  ⟨some 4, .mov (.t 0), none, []⟩,
  ⟨some 5, .bin .str .eql (.t 4) (.c (.string ⟨#[]⟩)), none, []⟩,
  ⟨some 6, .mov (.t 5), none, []⟩,
  ⟨some 7, .mov (.t 0), (some (6, false)), []⟩,
  ⟨some 8, .len true (.t 7), (some (6, false)), []⟩,
  ⟨some 9, .bin .int .gtr (.t 8) (.c (.int .i64 8)), (some (6, false)), []⟩,
  ⟨some 10, .pick (.t 6) (.c (.bool true)) (.t 9), none, []⟩] [] false)
  (.cond (.t 10)
    (.seq (.region [
  ⟨some 2, .mov (.c (.int .i64 2)), none, []⟩] [] false)
    (.ret))
    (.skip)))
  (.seq (.seq (.region [
  ⟨some 3, .mov (.c (.int .i64 0)), none, []⟩] [] false)
  (.loop ⟨[.slot 3 .int], [11, 12, 13, 14, 15, 16, 17, 18, 19, 20, 21, 22, 23, 24, 25, 26], [], []⟩ 0 (.seq (.seq (.region [
  ⟨some 11, .mov (.t 3), none, []⟩,
  ⟨some 12, .mov (.t 0), none, []⟩,
  ⟨some 13, .len true (.t 12), none, []⟩,
  ⟨some 14, .bin .int .lss (.t 11) (.t 13), none, []⟩] [] false)
    (.cond (.t 14)
      (.skip)
      (.exit 0)))
    (.seq (.block 1 (.seq (.regionJ ⟨[.slot 26 .bool], [17, 18, 19, 20, 21, 22, 23, 24, 25], [], []⟩ [
  ⟨some 17, .mov (.t 0), none, []⟩,
  ⟨some 18, .mov (.t 3), none, []⟩,
  ⟨some 19, .ix (.t 17) (.t 18), none, []⟩,
  ⟨some 20, .bin .int .lss (.t 19) (.c (.int .u8 97)), none, []⟩,
  ⟨some 21, .mov (.t 20), none, []⟩,
  ⟨some 22, .mov (.t 0), (some (21, false)), []⟩,
  ⟨some 23, .mov (.t 3), (some (21, false)), []⟩,
  ⟨some 24, .ix (.t 22) (.t 23), (some (21, false)), []⟩,
  ⟨some 25, .bin .int .gtr (.t 24) (.c (.int .u8 122)), (some (21, false)), []⟩,
  ⟨some 26, .pick (.t 21) (.c (.bool true)) (.t 25), none, []⟩] [] false)
      (.cond (.t 26)
        (.seq (.region [
  ⟨some 2, .mov (.c (.int .i64 2)), none, []⟩] [] false)
        (.ret))
        (.skip))))
    (.region [
  ⟨some 15, .mov (.t 3), none, []⟩,
  ⟨some 16, .bin .int .add (.t 15) (.c (.int .i64 1)), none, []⟩,
  ⟨some 3, .mov (.t 16), none, []⟩] [] false)))))
  (.seq (.region [
  ⟨some 2, .mov (.c (.int .i64 0)), none, []⟩] [] false)
  (.ret))))
def tf97 : TFunc := { np := 1, nt := 27, res := [.tmp 2], own := false, body := tc97 }
noncomputable def S97_L1 (a0 : ByteArray) (x2 : Int) : Option (LR Int Int) :=
  br (decide (x2 < ((ByteArray.size a0 : Nat) : Int)))
  (jn (σ := Bool) (α := (LR Int Int)) (bno (lookI (ByteArray.data a0).toList x2) fun y3 =>
  br (decide (((UInt8.toNat y3 : Nat) : Int) < (97 : Int)))
  (inlO (some true))
  (bno (lookI (ByteArray.data a0).toList x2) fun y4 =>
  inlO (some (decide ((122 : Int) < ((UInt8.toNat y4 : Nat) : Int)))))) fun x5 =>
  br x5
  (finO (some (2 : Int)))
  (nxO (some (wi (x2 + (1 : Int))))))
  (dnO (some x2))
noncomputable def S97 (a0 : ByteArray) : Option Int :=
  jn (σ := Bool) (α := Int) (br (decide (a0 = (⟨#[]⟩ : ByteArray)))
  (inlO (some true))
  (inlO (some (decide ((8 : Int) < ((ByteArray.size a0 : Nat) : Int)))))) fun x1 =>
  br x1
  (some (2 : Int))
  (lp (S97_L1 a0) (0 : Int) fun x6 =>
  some (0 : Int))
theorem s97 (a0 : ByteArray) : tf97.run [] [.str] .int a0 = S97 a0 := by kernel_rfl
noncomputable def P97 (a0 : ByteArray) : Option Int := S97 a0
noncomputable def k97 : CSpec := ⟨97, [.str], .int, fun x => P97 x, false, []⟩
theorem r97 {S : Seat} (h : Ok1 S 97 tf97) : Rt S k97 := fun x y hy =>
  Ok1.sound h (C := []) CSound.nil rfl rfl rfl ((s97 x).trans hy) rfl

/- tallyhall/tallyref1.Dim -/
/- tallyhall/tallyref1.Outline -/
/- tallyhall/tallyref1.Parts -/
/- tallyhall/tallyref1.Leaf -/
/- tallyhall/tallyref1.Weight -/
/- tallyhall/tallyref1.Leafs -/
end Ab
end

section
namespace Ab
open Go
set_option linter.unusedVariables false
set_option maxRecDepth 100000

/- tallyhall/tallyref1.Place -/
/- tallyhall/tallyref1.Right -/
/- tallyhall/tallyref1.LeafPlace -/
/- tallyhall/tallyref1.Less -/
/- tallyhall/tallyref1.Entries -/
/- tallyhall/tallyref1.PlaceWeight -/
/- tallyhall/tallyref1.Number -/
/- tallyhall/tallyref1.At -/
/- tallyhall/tallyref1.Roll -/
/- tallyhall/tallyref1.RollLeafs -/
end Ab
end

section
namespace Ab
open Go
set_option linter.unusedVariables false
set_option maxRecDepth 100000

/- tallyhall/tallyref1.Find -/
/- tallyhall/tallyref1.Input -/
/- tallyhall/tallyref1.Edit -/
/- tallyhall/tallysame.Entries -/
/- tallyhall/tallyref1.Edits -/
end Ab
end
