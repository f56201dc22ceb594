/-
  Functions of the program as typed code, what they come to, and their contracts: written by program (mk.py).
-/
import Derived.Test.YthjpciiacibnhaaDoorB2
import Derived.KernelRfl
import Derived.Test.YthjpciiacibnhaaDoorMS
namespace Ab
open Go
set_option linter.unusedVariables false
set_option maxRecDepth 100000

/- tallyhall/tallysame.Places -/
def tc128 : TCode :=
  .seq (.region [
  ⟨some 4, .mov (.c (.bool false)), none, []⟩] [] false)
  (.seq (.seq (.region [
  ⟨some 7, .mov (.t 0), none, []⟩,
  ⟨some 8, .len false (.t 7), none, []⟩,
  ⟨some 9, .mov (.t 1), none, []⟩,
  ⟨some 10, .len false (.t 9), none, []⟩,
  ⟨some 11, .bin .int .neq (.t 8) (.t 10), none, []⟩] [] false)
  (.cond (.t 11)
    (.seq (.region [
  ⟨some 4, .mov (.c (.bool false)), none, []⟩] [] false)
    (.ret))
    (.skip)))
  (.seq (.seq (.region [
  ⟨some 5, .mov (.c (.int .i64 0)), none, []⟩] [] false)
  (.loop ⟨[.slot 5 .int], [6, 12, 13, 14, 15, 16, 17, 18, 19, 20, 21, 22, 23, 24, 25, 26, 27, 28], [], []⟩ 0 (.seq (.seq (.region [
  ⟨some 12, .mov (.t 5), none, []⟩,
  ⟨some 13, .mov (.t 0), none, []⟩,
  ⟨some 14, .len false (.t 13), none, []⟩,
  ⟨some 15, .bin .int .lss (.t 12) (.t 14), none, []⟩] [] false)
    (.cond (.t 15)
      (.skip)
      (.exit 0)))
    (.seq (.block 1 (.seq (.region [
  ⟨some 18, .mov (.t 0), none, []⟩,
  ⟨some 19, .mov (.t 5), none, []⟩,
  ⟨some 20, .ia 1 (.t 18) (.t 19), none, [0, 1]⟩,
  ⟨some 21, .load none (.t 20), none, [2]⟩,
  ⟨some 22, .mov (.t 1), none, []⟩,
  ⟨some 23, .mov (.t 5), none, []⟩,
  ⟨some 24, .ia 1 (.t 22) (.t 23), none, [4, 5]⟩,
  ⟨some 25, .load none (.t 24), none, [6]⟩,
  ⟨some 26, .call false [] 28 [(.t 21), (.t 25)], none, [3, 7]⟩,
  ⟨some 6, .mov (.t 26), none, [8, 8, 0, 1, 2, 3, 4, 5, 6, 7, 8]⟩] [] true)
      (.seq (.region [
  ⟨some 27, .mov (.t 6), none, []⟩,
  ⟨some 28, .un .not (.t 27), none, []⟩] [] false)
      (.cond (.t 28)
        (.seq (.region [
  ⟨some 4, .mov (.c (.bool false)), none, []⟩] [] false)
        (.ret))
        (.skip)))))
    (.region [
  ⟨some 16, .mov (.t 5), none, []⟩,
  ⟨some 17, .bin .int .add (.t 16) (.c (.int .i64 1)), none, []⟩,
  ⟨some 5, .mov (.t 17), none, []⟩] [] false)))))
  (.seq (.region [
  ⟨some 4, .mov (.c (.bool true)), none, []⟩] [] false)
  (.ret))))
def tf128 : TFunc := { np := 2, nt := 29, res := [.tmp 4], own := false, body := tc128 }
noncomputable def S128_L1 (F28 : (List Int) → (List Int) → (Option Bool)) (a0 : (List (List Int))) (a1 : (List (List Int))) (x1 : Int) : Option (LR Int Bool) :=
  br (decide (x1 < ((List.length a0 : Nat) : Int)))
  (bno (lookI a0 x1) fun y2 =>
  bno (lookI a1 x1) fun y3 =>
  bno (F28 y2 y3) fun y4 =>
  br (!y4)
  (finO (some false))
  (nxO (some (wi (x1 + (1 : Int))))))
  (dnO (some x1))
noncomputable def S128 (F28 : (List Int) → (List Int) → (Option Bool)) (a0 : (List (List Int))) (a1 : (List (List Int))) : Option Bool :=
  br (decide (¬ ((List.length a0 : Nat) : Int) = ((List.length a1 : Nat) : Int)))
  (some false)
  (lp (S128_L1 F28 a0 a1) (0 : Int) fun x5 =>
  some true)
theorem s128 (F28 : (List Int) → (List Int) → (Option Bool)) (a0 : (List (List Int))) (a1 : (List (List Int))) : tf128.run [⟨28, [(.sl .int), (.sl .int)], .bool, fun x => F28 x.1 x.2, false, []⟩] [(.sl (.sl .int)), (.sl (.sl .int))] .bool (a0, a1) = S128 F28 a0 a1 := by kernel_rfl
noncomputable def P128 (a0 : (List (List Int))) (a1 : (List (List Int))) : Option Bool := S128 P28 a0 a1
noncomputable def k128 : CSpec := ⟨128, [(.sl (.sl .int)), (.sl (.sl .int))], .bool, fun x => P128 x.1 x.2, false, []⟩
theorem r128 {S : Seat} (h : Ok1 S 128 tf128) (h28 : Rt S k28) : Rt S k128 := fun x y hy =>
  Ok1.sound h (C := [k28]) (CSound.cons h28 CSound.nil) rfl rfl rfl ((s128 P28 x.1 x.2).trans hy) rfl

end Ab
