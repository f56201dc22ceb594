import Derived.Test.YtchidgkpkhloeaaGreatDoorB2
import Derived.KernelRfl
import Derived.Test.YtchidgkpkhloeaaGreatDoorF1
section
namespace Ab
open Go
set_option linter.unusedVariables false
set_option maxRecDepth 100000
def tc104 : TCode :=
  .seq (.region [
 oq 4 (.mov (.c (.bool false)))] [] false)
  (.seq (.seq (.region [
 oq 6 (.mov (.t 0)),
 oq 7 (.len false (.t 6)),
 oq 8 (.mov (.t 1)),
 oq 9 (.len false (.t 8)),
 oq 10 (.bin .int .neq (.t 7) (.t 9))] [] false)
  (.cond (.t 10)
    (.seq (.region [
 oq 4 (.mov (.c (.bool false)))] [] false)
    (.ret))
    (.skip)))
  (.seq (.seq (.region [
 oq 5 (.mov (.c (.int .i64 0)))] [] false)
  (.loop ⟨[.slot 5 .int], [11, 12, 13, 14, 15, 16, 17, 18, 19, 20, 21, 22, 23, 24, 25], [], []⟩ 0 (.seq (.seq (.region [
 oq 11 (.mov (.t 5)),
 oq 12 (.mov (.t 0)),
 oq 13 (.len false (.t 12)),
 oq 14 (.bin .int .lss (.t 11) (.t 13))] [] false)
    (.cond (.t 14)
      (.skip)
      (.exit 0)))
    (.seq (.block 1 (.seq (.region [
 oq 17 (.mov (.t 0)),
 oq 18 (.mov (.t 5)),
  ⟨some 19, .ia 1 (.t 17) (.t 18), none, [0, 1]⟩,
  ⟨some 20, .load none (.t 19), none, [2]⟩,
 oq 21 (.mov (.t 1)),
 oq 22 (.mov (.t 5)),
  ⟨some 23, .ia 1 (.t 21) (.t 22), none, [4, 5]⟩,
  ⟨some 24, .load none (.t 23), none, [6]⟩,
  ⟨some 25, .bin .int .neq (.t 20) (.t 24), none, [3, 7]⟩] [] true)
      (.cond (.t 25)
        (.seq (.region [
 oq 4 (.mov (.c (.bool false)))] [] false)
        (.ret))
        (.skip))))
    (.region [
 oq 15 (.mov (.t 5)),
 oq 16 (.bin .int .add (.t 15) (.c (.int .i64 1))),
 oq 5 (.mov (.t 16))] [] false)))))
  (.seq (.region [
 oq 4 (.mov (.c (.bool true)))] [] false)
  (.ret))))
def tf104 : TFunc := { np := 2, nt := 26, res := [.tmp 4], own := false, body := tc104 }
noncomputable def S104_L1 (a0 : (List Int)) (a1 : (List Int)) (x1 : Int) : Option (LR Int Bool) :=
  br (decide (x1 < ((List.length a0 : Nat) : Int)))
  (bno (lookI a0 x1) fun y2 =>
  bno (lookI a1 x1) fun y3 =>
  br (decide (¬ y2 = y3))
  (finO (some false))
  (nxO (some (wi (x1 + (1 : Int))))))
  (dnO (some x1))
noncomputable def S104 (a0 : (List Int)) (a1 : (List Int)) : Option Bool :=
  br (decide (¬ ((List.length a0 : Nat) : Int) = ((List.length a1 : Nat) : Int)))
  (some false)
  (lp (S104_L1 a0 a1) (0 : Int) fun x4 =>
  some true)
theorem s104 (a0 : (List Int)) (a1 : (List Int)) : tf104.run [] [(.sl .int), (.sl .int)] .bool (a0, a1) = S104 a0 a1 := by kernel_rfl
noncomputable def P104 (a0 : (List Int)) (a1 : (List Int)) : Option Bool := S104 a0 a1
noncomputable def k104 : CSpec := ⟨104, [(.sl .int), (.sl .int)], .bool, fun x => P104 x.1 x.2, false, []⟩
theorem r104 {S : Seat} (h : Ok1 S 104 tf104) : Rt S k104 := fun x y hy =>
  Ok1.sound h (C := []) CSound.nil rfl rfl rfl ((s104 x.1 x.2).trans hy) rfl
def tc92 : TCode :=
  .seq (.region [
 oq 4 (.mov (.c (.bool false)))] [] false)
  (.seq (.region [
 oq 6 (.mov (.t 0)),
 oq 7 (.call false [] 105 [(.t 6)]),
 oq 5 (.mov (.t 7))] [] false)
  (.seq (.region [
 oq 8 (.mov (.t 5)),
 oq 9 (.mov (.t 1)),
 oq 10 (.bin .int .eql (.t 8) (.t 9)),
 oq 4 (.mov (.t 10))] [] false)
  (.ret)))
def tf92 : TFunc := { np := 2, nt := 11, res := [.tmp 4], own := false, body := tc92 }
noncomputable def S92 (F105 : Err → (Option Int)) (a0 : Err) (a1 : Int) : Option Bool :=
  bno (F105 a0) fun y1 =>
  some (decide (y1 = a1))
theorem s92 (F105 : Err → (Option Int)) (a0 : Err) (a1 : Int) : tf92.run [⟨105, [.err], .int, fun x => F105 x, false, []⟩] [.err, .int] .bool (a0, a1) = S92 F105 a0 a1 := by kernel_rfl
noncomputable def P92 (a0 : Err) (a1 : Int) : Option Bool := S92 P105 a0 a1
noncomputable def k92 : CSpec := ⟨92, [.err, .int], .bool, fun x => P92 x.1 x.2, false, []⟩
theorem r92 {S : Seat} (h : Ok1 S 92 tf92) (h105 : Rt S k105) : Rt S k92 := fun x y hy =>
  Ok1.sound h (C := [k105]) (CSound.cons h105 CSound.nil) rfl rfl rfl ((s92 P105 x.1 x.2).trans hy) rfl
end Ab
end
section
namespace Ab
open Go
set_option linter.unusedVariables false
set_option maxRecDepth 100000
end Ab
end
