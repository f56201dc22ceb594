import Derived.Test.YtchidgkpkhloeaaGreatDoorB2
import Derived.KernelRfl
import Derived.Test.YtchidgkpkhloeaaGreatDoorF1
section
namespace Ab
open Go
set_option linter.unusedVariables false
set_option maxRecDepth 100000
def tc92 : TCode :=
  .seq (.region [
 oq 4 (.mov (.c (.bool false)))] [] false)
  (.seq (.region [
 oq 6 (.mov (.t 0)),
 oq 7 (.call false [] 105 [(.t 6)]),
 oq 5 (.mov (.t 7))] [] false)
  (.seq (.region [
 oq 8 (.mov (.t 5)),
 oq 9 (.mov (.t 1)),
 oq 10 (.bin .int .eql (.t 8) (.t 9)),
 oq 4 (.mov (.t 10))] [] false)
  (.ret)))
def tf92 : TFunc := { np := 2, nt := 11, res := [.tmp 4], own := false, body := tc92 }
noncomputable def S92 (F105 : Err → (Option Int)) (a0 : Err) (a1 : Int) : Option Bool :=
  bno (F105 a0) fun y1 =>
  some (decide (y1 = a1))
theorem s92 (F105 : Err → (Option Int)) (a0 : Err) (a1 : Int) : tf92.run [⟨105, [.err], .int, fun x => F105 x, false, []⟩] [.err, .int] .bool (a0, a1) = S92 F105 a0 a1 := by kernel_rfl
noncomputable def P92 (a0 : Err) (a1 : Int) : Option Bool := S92 P105 a0 a1
noncomputable def k92 : CSpec := ⟨92, [.err, .int], .bool, fun x => P92 x.1 x.2, false, []⟩
theorem r92 {S : Seat} (h : Ok1 S 92 tf92) (h105 : Rt S k105) : Rt S k92 := fun x y hy =>
  Ok1.sound h (C := [k105]) (CSound.cons h105 CSound.nil) rfl rfl rfl ((s92 P105 x.1 x.2).trans hy) rfl
end Ab
end
section
namespace Ab
open Go
set_option linter.unusedVariables false
set_option maxRecDepth 100000
end Ab
end
