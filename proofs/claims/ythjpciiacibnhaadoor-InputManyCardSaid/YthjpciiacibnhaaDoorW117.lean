/-
  Functions of the program as typed code, what they come to, and their contracts: written by program (mk.py).
-/
import Derived.Test.YthjpciiacibnhaaDoorB2
import Derived.KernelRfl
import Derived.Test.YthjpciiacibnhaaDoorMAl
import Derived.Test.YthjpciiacibnhaaDoorMF
import Derived.Test.YthjpciiacibnhaaDoorMI
import Derived.Test.YthjpciiacibnhaaDoorMS
namespace Ab
open Go
set_option linter.unusedVariables false
set_option maxRecDepth 100000

/- tallyhall/tallylaw4.InputMany -/
def tc117 : TCode :=
  .seq (.region [
  ⟨some 2, .mov (.c (.bool false)), none, []⟩] [] false)
  (.seq (.seq (.regionJ ⟨[.slot 14 .bool], [9, 10, 11, 12, 13], [], []⟩ [
  ⟨some 9, .mov (.t 0), none, []⟩,
  ⟨some 10, .bin .int .lss (.t 9) (.c (.int .i64 0)), none, []⟩,
  ⟨some 11, .mov (.t 10), none, []⟩,
  ⟨some 12, .mov (.t 0), (some (11, false)), []⟩,
  ⟨some 13, .bin .int .gtr (.t 12) (.c (.int .i64 80)), (some (11, false)), []⟩,
  ⟨some 14, .pick (.t 11) (.c (.bool true)) (.t 13), none, []⟩] [] false)
  (.cond (.t 14)
    (.seq (.region [
  ⟨some 2, .mov (.c (.bool true)), none, []⟩] [] false)
    (.ret))
    (.skip)))
  (.seq (.region [
  ⟨some 15, .call true [] 22 [(.c (.int .i64 9))], none, []⟩,
  ⟨some 3, .alloc [.slice none 0 0], none, []⟩,
  ⟨none, .store 1 (.t 3) (.t 15), none, []⟩] [] false)
  (.seq (.region [
  ⟨some 4, .mov (.c (.slice none 0 0)), none, []⟩] [] false)
  (.seq (.seq (.region [
  ⟨some 5, .mov (.c (.int .i64 0)), none, []⟩] [] false)
  (.loop ⟨[.row 4 33 .edit, .slot 5 .int], [16, 17, 18, 19, 20, 21, 22, 23, 24, 25, 26, 27, 28, 29, 30, 31, 32, 33], [29, 32], []⟩ 0 (.seq (.seq (.region [
  ⟨some 16, .mov (.t 5), none, []⟩,
  ⟨some 17, .mov (.t 0), none, []⟩,
  ⟨some 18, .bin .int .lss (.t 16) (.t 17), none, []⟩] [] false)
    (.cond (.t 18)
      (.skip)
      (.exit 0)))
    (.seq (.block 1 (.region [
  ⟨some 21, .mov (.t 4), none, []⟩,
  ⟨some 22, .mov (.t 5), none, []⟩,
  ⟨some 23, .bin .int .quo (.t 22) (.c (.int .i64 9)), none, []⟩,
  ⟨some 24, .bin .int .rem (.t 23) (.c (.int .i64 9)), none, []⟩,
  ⟨some 25, .bin .int .add (.c (.int .i64 1)) (.t 24), none, []⟩,
  ⟨some 26, .mov (.t 5), none, []⟩,
  ⟨some 27, .bin .int .rem (.t 26) (.c (.int .i64 9)), none, []⟩,
  ⟨some 28, .bin .int .add (.c (.int .i64 1)) (.t 27), none, []⟩,
  ⟨some 29, .bslice false 1 [.int .i64 0] 2 [(0, (.t 25)), (1, (.t 28))], none, []⟩,
  ⟨some 30, .mov (.t 5), none, []⟩,
  ⟨some 31, .build [.slice none 0 0, .int .i64 0, .bool false] [(0, 1, (.t 29)), (1, 1, (.t 30))], none, []⟩,
  ⟨some 32, .bslice true 3 [.slice none 0 0, .int .i64 0, .bool false] 1 [(0, (.t 31))], none, []⟩,
  ⟨some 33, .app 3 (.t 21) (.t 32), none, []⟩,
  ⟨some 4, .mov (.t 33), none, []⟩] [.int, .int, .int, .int, .int, .int, .int, .int, .int, .int, .int, .edit, .edit] false))
    (.region [
  ⟨some 19, .mov (.t 5), none, []⟩,
  ⟨some 20, .bin .int .add (.t 19) (.c (.int .i64 1)), none, []⟩,
  ⟨some 5, .mov (.t 20), none, []⟩] [] false)))))
  (.seq (.region [
  ⟨some 35, .load (some 1) (.t 3), none, []⟩,
  ⟨some 36, .mov (.t 4), none, []⟩,
  ⟨some 37, .call true [] 112 [(.t 35), (.c (.slice none 0 0)), (.t 36)], none, []⟩,
  ⟨some 34, .mov (.t 37), none, []⟩,
  ⟨some 38, .ext (.t 34) 0, none, []⟩,
  ⟨some 39, .ext (.t 34) 1, none, []⟩,
  ⟨some 40, .ext (.t 34) 2, none, []⟩,
  ⟨some 6, .mov (.t 38), none, []⟩,
  ⟨some 7, .mov (.t 39), none, []⟩,
  ⟨some 8, .mov (.t 40), none, []⟩] [] false)
  (.seq (.seq (.region [
  ⟨some 41, .mov (.t 0), none, []⟩,
  ⟨some 42, .bin .int .gtr (.t 41) (.c (.int .i64 60)), none, []⟩] [] false)
  (.cond (.t 42)
    (.seq (.region [
  ⟨some 43, .mov (.t 8), none, []⟩,
  ⟨some 44, .call false [] 92 [(.t 43), (.c (.int .i64 4))], none, []⟩,
  ⟨some 2, .mov (.t 44), none, []⟩] [] false)
    (.ret))
    (.skip)))
  (.seq (.regionJ ⟨[.slot 2 .bool], [45, 46, 47, 48, 49, 50, 51, 52, 53, 54, 55, 56, 57, 58, 59, 60, 61, 62], [], []⟩ [
  ⟨some 45, .mov (.t 8), none, []⟩,
  ⟨some 46, .eqn false false (.t 45), none, []⟩,
  ⟨some 47, .mov (.t 46), none, []⟩,
  ⟨some 48, .mov (.t 7), (some (47, true)), []⟩,
  ⟨some 49, .bin .int .eql (.t 48) (.c (.int .i64 0)), (some (47, true)), []⟩,
  ⟨some 50, .pick (.t 47) (.t 49) (.c (.bool false)), none, []⟩,
  ⟨some 51, .mov (.t 50), none, []⟩,
  ⟨some 52, .mov (.t 6), (some (51, true)), []⟩,
  ⟨some 53, .len false (.t 52), (some (51, true)), []⟩,
  ⟨some 54, .mov (.t 0), (some (51, true)), []⟩,
  ⟨some 55, .bin .int .eql (.t 53) (.t 54), (some (51, true)), []⟩,
  ⟨some 56, .pick (.t 51) (.t 55) (.c (.bool false)), none, []⟩,
  ⟨some 57, .mov (.t 56), none, []⟩,
  ⟨some 58, .load (some 1) (.t 3), (some (57, true)), []⟩,
  ⟨some 59, .mov (.t 6), (some (57, true)), []⟩,
  ⟨some 60, .call false [] 27 [(.t 58), (.t 59)], (some (57, true)), []⟩,
  ⟨some 61, .eqn false false (.t 60), (some (57, true)), []⟩,
  ⟨some 62, .pick (.t 57) (.t 61) (.c (.bool false)), none, []⟩,
  ⟨some 2, .mov (.t 62), none, []⟩] [] false)
  (.ret))))))))
def tf117 : TFunc := { np := 1, nt := 63, res := [.tmp 2], own := false, body := tc117 }
noncomputable def S117_L1 (a0 : Int) (x3 : ((List Edit) × Int)) : Option (LR ((List Edit) × Int) Bool) :=
  br (decide (x3.2 < a0))
  (ck (decide (¬ (9 : Int) = 0)) <|
  ck (decide (¬ (9 : Int) = 0)) <|
  ck (decide (¬ (9 : Int) = 0)) <|
  ck (decide (List.length x3.1 + List.length ([Edit.mk ([wi ((1 : Int) + (Int.tmod (wi (Int.tdiv x3.2 (9 : Int))) (9 : Int))), wi ((1 : Int) + (Int.tmod x3.2 (9 : Int)))] : List Int) x3.2 false] : List Edit) ≤ roomA)) <|
  nxO (some (x3.1 ++ ([Edit.mk ([wi ((1 : Int) + (Int.tmod (wi (Int.tdiv x3.2 (9 : Int))) (9 : Int))), wi ((1 : Int) + (Int.tmod x3.2 (9 : Int)))] : List Int) x3.2 false] : List Edit), wi (x3.2 + (1 : Int)))))
  (dnO (some (x3.1, x3.2)))
noncomputable def S117 (F112 : (List Dim) → (List Entry) → (List Edit) → (Option ((List Entry) × Int × Err))) (F22 : Int → (Option (List Dim))) (F27 : (List Dim) → (List Entry) → (Option Err)) (F92 : Err → Int → (Option Bool)) (a0 : Int) : Option Bool :=
  jn (σ := Bool) (α := Bool) (br (decide (a0 < (0 : Int)))
  (inlO (some true))
  (inlO (some (decide ((80 : Int) < a0))))) fun x1 =>
  br x1
  (some true)
  (bno (F22 (9 : Int)) fun y2 =>
  lp (S117_L1 a0) (([] : List Edit), (0 : Int)) fun x4 =>
  bno (F112 y2 ([] : List Entry) x4.1) fun y5 =>
  br (decide ((60 : Int) < a0))
  (bno (F92 y5.2.2 (4 : Int)) fun y6 =>
  some y6)
  (jn (σ := Bool) (α := Bool) (br (Err.isNil y5.2.2)
  (br (decide (y5.2.1 = (0 : Int)))
  (br (decide (((List.length y5.1 : Nat) : Int) = a0))
  (bno (F27 y2 y5.1) fun y7 =>
  inlO (some (Err.isNil y7)))
  (inlO (some false)))
  (inlO (some false)))
  (inlO (some false))) fun x8 =>
  some x8))
theorem s117 (F112 : (List Dim) → (List Entry) → (List Edit) → (Option ((List Entry) × Int × Err))) (F22 : Int → (Option (List Dim))) (F27 : (List Dim) → (List Entry) → (Option Err)) (F92 : Err → Int → (Option Bool)) (a0 : Int) : tf117.run [⟨112, [(.st .outl), (.sl .entry), (.sl .edit)], (.tp [(.sl .entry), .int, .err]), fun x => F112 x.1 x.2.1 x.2.2, false, []⟩,
  ⟨22, [.int], (.st .outl), fun x => F22 x, false, []⟩,
  ⟨27, [(.st .outl), (.sl .entry)], .err, fun x => F27 x.1 x.2, false, []⟩,
  ⟨92, [.err, .int], .bool, fun x => F92 x.1 x.2, false, []⟩] [.int] .bool a0 = S117 F112 F22 F27 F92 a0 := by kernel_rfl
noncomputable def P117 (a0 : Int) : Option Bool := S117 P112 P22 P27 P92 a0
noncomputable def k117 : CSpec := ⟨117, [.int], .bool, fun x => P117 x, false, []⟩
theorem r117 {S : Seat} (h : Ok1 S 117 tf117) (h112 : Rt S k112) (h22 : Rt S k22) (h27 : Rt S k27) (h92 : Rt S k92) : Rt S k117 := fun x y hy =>
  Ok1.sound h (C := [k112, k22, k27, k92]) (CSound.cons h112 (CSound.cons h22 (CSound.cons h27 (CSound.cons h92 CSound.nil)))) rfl rfl rfl ((s117 P112 P22 P27 P92 x).trans hy) rfl

end Ab
