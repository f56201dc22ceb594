import Derived.Test.YtcabflannjeigaaB2
import Derived.KernelRfl
import Derived.Test.YtcabflannjeigaaMX
section
namespace Ab
open Go
set_option linter.unusedVariables false
set_option maxRecDepth 100000

/- tallyhall/tallysame.Cells -/
def tc24 : TCode :=
  .seq (.region [
  ⟨some 4, .mov (.c (.bool false)), none, []⟩] [] false)
  (.seq (.seq (.region [
  ⟨some 6, .mov (.t 0), none, []⟩,
  ⟨some 7, .len false (.t 6), none, []⟩,
  ⟨some 8, .mov (.t 1), none, []⟩,
  ⟨some 9, .len false (.t 8), none, []⟩,
  ⟨some 10, .bin .int .neq (.t 7) (.t 9), none, []⟩] [] false)
  (.cond (.t 10)
    (.seq (.region [
  ⟨some 4, .mov (.c (.bool false)), none, []⟩] [] false)
    (.ret))
    (.skip)))
  (.seq (.seq (.region [
  ⟨some 5, .mov (.c (.int .i64 0)), none, []⟩] [] false)
  (.loop ⟨[.slot 5 .int], [11, 12, 13, 14, 15, 16, 17, 18, 19, 20, 21, 22, 23, 24, 25], [], []⟩ 0 (.seq (.seq (.region [
  ⟨some 11, .mov (.t 5), none, []⟩,
  ⟨some 12, .mov (.t 0), none, []⟩,
  ⟨some 13, .len false (.t 12), none, []⟩,
  ⟨some 14, .bin .int .lss (.t 11) (.t 13), none, []⟩] [] false)
    (.cond (.t 14)
      (.skip)
      (.exit 0)))
    (.seq (.block 1 (.seq (.region [
  ⟨some 17, .mov (.t 0), none, []⟩,
  ⟨some 18, .mov (.t 5), none, []⟩,
  ⟨some 19, .ia 2 (.t 17) (.t 18), none, [0, 1]⟩,
  ⟨some 20, .load (some 2) (.t 19), none, [2]⟩,
  ⟨some 21, .mov (.t 1), none, []⟩,
  ⟨some 22, .mov (.t 5), none, []⟩,
  ⟨some 23, .ia 2 (.t 21) (.t 22), none, [4, 5]⟩,
  ⟨some 24, .load (some 2) (.t 23), none, [6]⟩,
  ⟨some 25, .eqa true [(0, .int), (1, .int)] (.t 20) (.t 24), none, [3, 7]⟩] [] true)
      (.cond (.t 25)
        (.seq (.region [
  ⟨some 4, .mov (.c (.bool false)), none, []⟩] [] false)
        (.ret))
        (.skip))))
    (.region [
  ⟨some 15, .mov (.t 5), none, []⟩,
  ⟨some 16, .bin .int .add (.t 15) (.c (.int .i64 1)), none, []⟩,
  ⟨some 5, .mov (.t 16), none, []⟩] [] false)))))
  (.seq (.region [
  ⟨some 4, .mov (.c (.bool true)), none, []⟩] [] false)
  (.ret))))
def tf24 : TFunc := { np := 2, nt := 26, res := [.tmp 4], own := false, body := tc24 }
noncomputable def S24_L1 (a0 : (List Cell)) (a1 : (List Cell)) (x1 : Int) : Option (LR Int Bool) :=
  br (decide (x1 < ((List.length a0 : Nat) : Int)))
  (bno (lookI a0 x1) fun y2 =>
  bno (lookI a1 x1) fun y3 =>
  br (!(decide ((Cell.k y2) = (Cell.k y3)) && (decide ((Cell.n y2) = (Cell.n y3)) && true)))
  (finO (some false))
  (nxO (some (wi (x1 + (1 : Int))))))
  (dnO (some x1))
noncomputable def S24 (a0 : (List Cell)) (a1 : (List Cell)) : Option Bool :=
  br (decide (¬ ((List.length a0 : Nat) : Int) = ((List.length a1 : Nat) : Int)))
  (some false)
  (lp (S24_L1 a0 a1) (0 : Int) fun x4 =>
  some true)
theorem s24 (a0 : (List Cell)) (a1 : (List Cell)) : tf24.run [] [(.sl .cell), (.sl .cell)] .bool (a0, a1) = S24 a0 a1 := by kernel_rfl
noncomputable def P24 (a0 : (List Cell)) (a1 : (List Cell)) : Option Bool := S24 a0 a1
noncomputable def k24 : CSpec := ⟨24, [(.sl .cell), (.sl .cell)], .bool, fun x => P24 x.1 x.2, false, []⟩
theorem r24 {S : Seat} (h : Ok1 S 24 tf24) : Rt S k24 := fun x y hy =>
  Ok1.sound h (C := []) CSound.nil rfl rfl rfl ((s24 x.1 x.2).trans hy) rfl

/- tallyhall/tallysame.Place -/
/- tallyhall/tallysame.Ints -/
/- tallyhall/tallysame.Error -/
noncomputable def S92 (F105 : Err → (Option Int)) (a0 : Err) (a1 : Int) : Option Bool :=
  bno (F105 a0) fun y1 =>
  some (decide (y1 = a1))
noncomputable def P92 (a0 : Err) (a1 : Int) : Option Bool := S92 P105 a0 a1
end Ab
end

section
namespace Ab
open Go
set_option linter.unusedVariables false
set_option maxRecDepth 100000

/- tallyhall/tallysame.Places -/
end Ab
end
