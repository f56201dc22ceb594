/-
  Functions of the program as typed code, what they come to, and their contracts: written by program (mk.py).
-/
import Derived.Test.YthjpciiacibnhaaB2
import Derived.KernelRfl
import Derived.Test.YthjpciiacibnhaaMI
import Derived.Test.YthjpciiacibnhaaMIn
namespace Ab
open Go
set_option linter.unusedVariables false
set_option maxRecDepth 100000

/- tallyhall/input.All -/
def tc112 : TCode :=
  .seq (.region [
  ⟨some 3, .box (.t 0), none, []⟩,
  ⟨some 6, .mov (.c (.slice none 0 0)), none, []⟩,
  ⟨some 7, .mov (.c (.int .i64 0)), none, []⟩,
  ⟨some 8, .mov (.c (.nilIface)), none, []⟩] [] false)
  (.seq (.seq (.region [
  ⟨some 14, .mov (.t 2), none, []⟩,
  ⟨some 15, .len false (.t 14), none, []⟩,
  ⟨some 16, .bin .int .gtr (.t 15) (.c (.int .i64 60)), none, []⟩] [] false)
  (.cond (.t 16)
    (.seq (.region [
  ⟨some 17, .ifc 1 (.c (.int .i64 4)), none, []⟩,
  ⟨some 6, .mov (.c (.slice none 0 0)), none, []⟩,
  ⟨some 7, .mov (.c (.int .i64 0)), none, []⟩,
  ⟨some 8, .mov (.t 17), none, []⟩] [] false)
    (.ret))
    (.skip)))
  (.seq (.seq (.region [
  ⟨some 18, .load (some 1) (.t 3), none, []⟩,
  ⟨some 19, .mov (.t 1), none, []⟩,
  ⟨some 20, .call false [] 27 [(.t 18), (.t 19)], none, []⟩,
  ⟨some 9, .mov (.t 20), none, []⟩] [] false)
  (.seq (.region [
  ⟨some 21, .mov (.t 9), none, []⟩,
  ⟨some 22, .eqn false true (.t 21), none, []⟩] [] false)
  (.cond (.t 22)
    (.seq (.region [
  ⟨some 23, .mov (.t 9), none, []⟩,
  ⟨some 6, .mov (.c (.slice none 0 0)), none, []⟩,
  ⟨some 7, .mov (.c (.int .i64 0)), none, []⟩,
  ⟨some 8, .mov (.t 23), none, []⟩] [] false)
    (.ret))
    (.skip))))
  (.seq (.region [
  ⟨some 24, .mov (.t 1), none, []⟩,
  ⟨some 25, .call true [] 72 [(.t 24)], none, []⟩,
  ⟨some 1, .mov (.t 25), none, []⟩] [] false)
  (.seq (.seq (.region [
  ⟨some 26, .mov (.t 2), none, []⟩,
  ⟨some 27, .len false (.t 26), none, []⟩,
  ⟨some 28, .mov (.c (.int .i64 0)), none, []⟩] [] false)
  (.loop ⟨[.row 1 25 .entry, .slot 28 .int], [10, 11, 12, 13, 29, 30, 31, 32, 33, 34, 35, 36, 37, 38, 39, 40, 41, 44, 45], [11], []⟩ 0 (.seq (.region [
  ⟨some 29, .bin .int .lss (.t 28) (.t 27), none, []⟩] [] false)
    (.seq (.cond (.t 29)
      (.skip)
      (.exit 0))
    (.seq (.block 1 (.seq (.region [
  ⟨some 30, .mov (.t 28), none, []⟩,
  ⟨some 31, .ia 3 (.t 26) (.t 28), none, []⟩,
  ⟨some 32, .load (some 3) (.t 31), none, []⟩,
  ⟨some 11, .alloc [.slice none 0 0, .int .i64 0, .bool false], none, []⟩,
  ⟨some 10, .mov (.t 30), none, []⟩,
  ⟨none, .store 3 (.t 11) (.t 32), none, []⟩] [] false)
      (.seq (.region [
  ⟨some 34, .load (some 1) (.t 3), none, []⟩,
  ⟨some 35, .mov (.t 1), none, []⟩,
  ⟨some 36, .load (some 3) (.t 11), none, []⟩,
  ⟨some 37, .call true [1001] 71 [(.t 34), (.t 35), (.t 36)], none, []⟩,
  ⟨some 33, .mov (.t 37), none, []⟩,
  ⟨some 38, .ext (.t 33) 0, none, []⟩,
  ⟨some 39, .ext (.t 33) 1, none, []⟩,
  ⟨some 12, .mov (.t 38), none, []⟩,
  ⟨some 13, .mov (.t 39), none, []⟩] [] false)
      (.seq (.seq (.region [
  ⟨some 40, .mov (.t 13), none, []⟩,
  ⟨some 41, .eqn false true (.t 40), none, []⟩] [] false)
      (.cond (.t 41)
        (.seq (.region [
  ⟨some 42, .mov (.t 10), none, []⟩,
  ⟨some 43, .mov (.t 13), none, []⟩,
  ⟨some 6, .mov (.c (.slice none 0 0)), none, []⟩,
  ⟨some 7, .mov (.t 42), none, []⟩,
  ⟨some 8, .mov (.t 43), none, []⟩] [] false)
        (.ret))
        (.skip)))
      (.region [
  ⟨some 44, .mov (.t 12), none, []⟩,
  ⟨some 1, .mov (.t 44), none, []⟩] [] false)))))
    (.region [
  ⟨some 45, .bin .int .add (.t 28) (.c (.int .i64 1)), none, []⟩,
  ⟨some 28, .mov (.t 45), none, []⟩] [] false))))))
  (.seq (.region [
  ⟨some 46, .mov (.t 1), none, []⟩,
  ⟨some 6, .mov (.t 46), none, []⟩,
  ⟨some 7, .mov (.c (.int .i64 0)), none, []⟩,
  ⟨some 8, .mov (.c (.nilIface)), none, []⟩] [] false)
  (.ret))))))
def tf112 : TFunc := { np := 3, nt := 47, res := [.tmp 6, .tmp 7, .tmp 8], own := false, body := tc112 }
noncomputable def S112_L1 (F71 : (List Dim) → (List Entry) → Edit → (Option ((List Entry) × Err))) (a0 : (List Dim)) (a2 : (List Edit)) (x3 : ((List Entry) × Int)) : Option (LR ((List Entry) × Int) ((List Entry) × Int × Err)) :=
  br (decide (x3.2 < ((List.length a2 : Nat) : Int)))
  (bno (lookI a2 x3.2) fun y4 =>
  bno (F71 a0 x3.1 y4) fun y5 =>
  br (!(Err.isNil y5.2))
  (finO (some (([] : List Entry), x3.2, y5.2)))
  (nxO (some (y5.1, wi (x3.2 + (1 : Int))))))
  (dnO (some (x3.1, x3.2)))
noncomputable def S112 (F27 : (List Dim) → (List Entry) → (Option Err)) (F71 : (List Dim) → (List Entry) → Edit → (Option ((List Entry) × Err))) (F72 : (List Entry) → (Option (List Entry))) (a0 : (List Dim)) (a1 : (List Entry)) (a2 : (List Edit)) : Option ((List Entry) × Int × Err) :=
  br (decide ((60 : Int) < ((List.length a2 : Nat) : Int)))
  (some (([] : List Entry), (0 : Int), Err.no (4 : Int)))
  (bno (F27 a0 a1) fun y1 =>
  br (!(Err.isNil y1))
  (some (([] : List Entry), (0 : Int), y1))
  (bno (F72 a1) fun y2 =>
  lp (S112_L1 F71 a0 a2) (y2, (0 : Int)) fun x6 =>
  some (x6.1, (0 : Int), Err.nil)))
theorem s112 (F27 : (List Dim) → (List Entry) → (Option Err)) (F71 : (List Dim) → (List Entry) → Edit → (Option ((List Entry) × Err))) (F72 : (List Entry) → (Option (List Entry))) (a0 : (List Dim)) (a1 : (List Entry)) (a2 : (List Edit)) : tf112.run [⟨27, [(.st .outl), (.sl .entry)], .err, fun x => F27 x.1 x.2, false, []⟩,
  ⟨71, [(.st .outl), (.own .entry), (.st .edit)], (.tp [(.own .entry), .err]), fun x => F71 x.1 x.2.1 x.2.2, false, [1001]⟩,
  ⟨72, [(.sl .entry)], (.own .entry), fun x => F72 x, false, []⟩] [(.st .outl), (.sl .entry), (.sl .edit)] (.tp [(.sl .entry), .int, .err]) (a0, a1, a2) = S112 F27 F71 F72 a0 a1 a2 := by kernel_rfl
noncomputable def P112 (a0 : (List Dim)) (a1 : (List Entry)) (a2 : (List Edit)) : Option ((List Entry) × Int × Err) := S112 P27 P71 P72 a0 a1 a2
noncomputable def k112 : CSpec := ⟨112, [(.st .outl), (.sl .entry), (.sl .edit)], (.tp [(.sl .entry), .int, .err]), fun x => P112 x.1 x.2.1 x.2.2, false, []⟩
theorem r112 {S : Seat} (h : Ok1 S 112 tf112) (h27 : Rt S k27) (h71 : Rt S k71) (h72 : Rt S k72) : Rt S k112 := fun x y hy =>
  Ok1.sound h (C := [k27, k71, k72]) (CSound.cons h27 (CSound.cons h71 (CSound.cons h72 CSound.nil))) rfl rfl rfl ((s112 P27 P71 P72 x.1 x.2.1 x.2.2).trans hy) rfl

end Ab
