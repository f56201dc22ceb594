/-
  Functions of the program as typed code, what they come to, and their contracts: written by program (mk.py).
-/
import Derived.Test.YtcabflannjeigaaGreatDoorB2
import Derived.KernelRfl
namespace Ab
open Go
set_option linter.unusedVariables false
set_option maxRecDepth 100000

/- tallyhall/tallysame.Nodes -/
def tc249 : TCode :=
  .seq (.region [
  ⟨some 4, .mov (.c (.bool false)), none, []⟩] [] false)
  (.seq (.seq (.region [
  ⟨some 6, .mov (.t 0), none, []⟩,
  ⟨some 7, .len false (.t 6), none, []⟩,
  ⟨some 8, .mov (.t 1), none, []⟩,
  ⟨some 9, .len false (.t 8), none, []⟩,
  ⟨some 10, .bin .int .neq (.t 7) (.t 9), none, []⟩] [] false)
  (.cond (.t 10)
    (.seq (.region [
  ⟨some 4, .mov (.c (.bool false)), none, []⟩] [] false)
    (.ret))
    (.skip)))
  (.seq (.seq (.region [
  ⟨some 5, .mov (.c (.int .i64 0)), none, []⟩] [] false)
  (.loop ⟨[.slot 5 .int], [11, 12, 13, 14, 15, 16, 17, 18, 19, 20, 21, 22, 23, 24, 25], [], []⟩ 0 (.seq (.seq (.region [
  ⟨some 11, .mov (.t 5), none, []⟩,
  ⟨some 12, .mov (.t 0), none, []⟩,
  ⟨some 13, .len false (.t 12), none, []⟩,
  ⟨some 14, .bin .int .lss (.t 11) (.t 13), none, []⟩] [] false)
    (.cond (.t 14)
      (.skip)
      (.exit 0)))
    (.seq (.block 1 (.seq (.region [
  ⟨some 17, .mov (.t 0), none, []⟩,
  ⟨some 18, .mov (.t 5), none, []⟩,
  ⟨some 19, .ia 5 (.t 17) (.t 18), none, [0, 1]⟩,
  ⟨some 20, .load (some 5) (.t 19), none, [2]⟩,
  ⟨some 21, .mov (.t 1), none, []⟩,
  ⟨some 22, .mov (.t 5), none, []⟩,
  ⟨some 23, .ia 5 (.t 21) (.t 22), none, [4, 5]⟩,
  ⟨some 24, .load (some 5) (.t 23), none, [6]⟩,
  ⟨some 25, .eqa true [(0, .int), (1, .int), (2, .str), (3, .int), (4, .int)] (.t 20) (.t 24), none, [3, 7]⟩] [] true)
      (.cond (.t 25)
        (.seq (.region [
  ⟨some 4, .mov (.c (.bool false)), none, []⟩] [] false)
        (.ret))
        (.skip))))
    (.region [
  ⟨some 15, .mov (.t 5), none, []⟩,
  ⟨some 16, .bin .int .add (.t 15) (.c (.int .i64 1)), none, []⟩,
  ⟨some 5, .mov (.t 16), none, []⟩] [] false)))))
  (.seq (.region [
  ⟨some 4, .mov (.c (.bool true)), none, []⟩] [] false)
  (.ret))))
def tf249 : TFunc := { np := 2, nt := 26, res := [.tmp 4], own := false, body := tc249 }
noncomputable def S249_L1 (a0 : (List Node)) (a1 : (List Node)) (x1 : Int) : Option (LR Int Bool) :=
  br (decide (x1 < ((List.length a0 : Nat) : Int)))
  (bno (lookI a0 x1) fun y2 =>
  bno (lookI a1 x1) fun y3 =>
  br (!(decide ((Node.op y2) = (Node.op y3)) && (decide ((Node.n y2) = (Node.n y3)) && (decide ((Node.name y2) = (Node.name y3)) && (decide ((Node.left y2) = (Node.left y3)) && (decide ((Node.right y2) = (Node.right y3)) && true))))))
  (finO (some false))
  (nxO (some (wi (x1 + (1 : Int))))))
  (dnO (some x1))
noncomputable def S249 (a0 : (List Node)) (a1 : (List Node)) : Option Bool :=
  br (decide (¬ ((List.length a0 : Nat) : Int) = ((List.length a1 : Nat) : Int)))
  (some false)
  (lp (S249_L1 a0 a1) (0 : Int) fun x4 =>
  some true)
theorem s249 (a0 : (List Node)) (a1 : (List Node)) : tf249.run [] [(.sl .node), (.sl .node)] .bool (a0, a1) = S249 a0 a1 := by kernel_rfl
noncomputable def P249 (a0 : (List Node)) (a1 : (List Node)) : Option Bool := S249 a0 a1
noncomputable def k249 : CSpec := ⟨249, [(.sl .node), (.sl .node)], .bool, fun x => P249 x.1 x.2, false, []⟩
theorem r249 {S : Seat} (h : Ok1 S 249 tf249) : Rt S k249 := fun x y hy =>
  Ok1.sound h (C := []) CSound.nil rfl rfl rfl ((s249 x.1 x.2).trans hy) rfl

end Ab
