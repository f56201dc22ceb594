/-
  Functions of the program as typed code, what they come to, and their contracts: written by program (mk.py).
-/
import Derived.Test.YtkedlclobjhkfaaDoorTL
import Derived.KernelRfl
import Derived.Test.YtkedlclobjhkfaaDoorMF
import Derived.Test.YtkedlclobjhkfaaDoorMP
import Derived.Test.YtkedlclobjhkfaaDoorMS
namespace Ab
open Go
set_option linter.unusedVariables false
set_option maxRecDepth 100000

/- tallyhall/tallylaw4.PlaceCounts -/
def tc89 : TCode :=
  .seq (.region [
  ⟨some 4, .mov (.c (.bool false)), none, []⟩] [] false)
  (.seq (.seq (.regionJ ⟨[.slot 14 .bool], [9, 10, 11, 12, 13], [], []⟩ [
  ⟨some 9, .mov (.t 0), none, []⟩,
  ⟨some 10, .bin .int .lss (.t 9) (.c (.int .i64 1)), none, []⟩,
  ⟨some 11, .mov (.t 10), none, []⟩,
  ⟨some 12, .mov (.t 0), (some (11, false)), []⟩,
  ⟨some 13, .bin .int .gtr (.t 12) (.c (.int .i64 10)), (some (11, false)), []⟩,
  ⟨some 14, .pick (.t 11) (.c (.bool true)) (.t 13), none, []⟩] [] false)
  (.cond (.t 14)
    (.seq (.region [
  ⟨some 4, .mov (.c (.bool true)), none, []⟩] [] false)
    (.ret))
    (.skip)))
  (.seq (.region [
  ⟨some 15, .mov (.t 0), none, []⟩,
  ⟨some 16, .call true [] 22 [(.t 15)], none, []⟩,
  ⟨some 5, .alloc [.slice none 0 0], none, []⟩,
  ⟨none, .store 1 (.t 5) (.t 16), none, []⟩] [] false)
  (.seq (.region [
  ⟨some 17, .mov (.t 0), none, []⟩,
  ⟨some 18, .bin .int .add (.t 17) (.c (.int .i64 1)), none, []⟩,
  ⟨some 19, .mov (.t 0), none, []⟩,
  ⟨some 20, .bin .int .add (.t 19) (.c (.int .i64 1)), none, []⟩,
  ⟨some 21, .bin .int .mul (.t 18) (.t 20), none, []⟩,
  ⟨some 6, .mov (.t 21), none, []⟩] [] false)
  (.seq (.region [
  ⟨some 23, .load (some 1) (.t 5), none, []⟩,
  ⟨some 24, .mov (.t 1), none, []⟩,
  ⟨some 25, .call true [] 98 [(.t 23), (.t 24)], none, []⟩,
  ⟨some 22, .mov (.t 25), none, []⟩,
  ⟨some 26, .ext (.t 22) 0, none, []⟩,
  ⟨some 27, .ext (.t 22) 1, none, []⟩,
  ⟨some 7, .mov (.t 26), none, []⟩,
  ⟨some 8, .mov (.t 27), none, []⟩] [] false)
  (.seq (.seq (.regionJ ⟨[.slot 34 .bool], [28, 29, 30, 31, 32, 33], [], []⟩ [
  ⟨some 28, .mov (.t 1), none, []⟩,
  ⟨some 29, .bin .int .lss (.t 28) (.c (.int .i64 0)), none, []⟩,
  ⟨some 30, .mov (.t 29), none, []⟩,
  ⟨some 31, .mov (.t 1), (some (30, false)), []⟩,
  ⟨some 32, .mov (.t 6), (some (30, false)), []⟩,
  ⟨some 33, .bin .int .geq (.t 31) (.t 32), (some (30, false)), []⟩,
  ⟨some 34, .pick (.t 30) (.c (.bool true)) (.t 33), none, []⟩] [] false)
  (.cond (.t 34)
    (.seq (.region [
  ⟨some 35, .mov (.t 8), none, []⟩,
  ⟨some 36, .call false [] 92 [(.t 35), (.c (.int .i64 1))], none, []⟩,
  ⟨some 4, .mov (.t 36), none, []⟩] [] false)
    (.ret))
    (.skip)))
  (.seq (.regionJ ⟨[.slot 4 .bool], [37, 38, 39, 40, 41, 42, 43, 44, 45, 46, 47, 48, 49, 50, 51, 52, 53, 54, 55, 56, 57, 58, 59, 60, 61, 62, 63], [], []⟩ [
  ⟨some 37, .mov (.t 8), none, []⟩,
  ⟨some 38, .eqn false false (.t 37), none, [0]⟩,
  ⟨some 39, .mov (.t 38), none, [1]⟩,
  ⟨some 40, .mov (.t 7), (some (39, true)), [2]⟩,
  ⟨some 41, .len false (.t 40), (some (39, true)), [3, 2]⟩,
  ⟨some 42, .bin .int .eql (.t 41) (.c (.int .i64 2)), (some (39, true)), [4, 2]⟩,
  ⟨some 43, .pick (.t 39) (.t 42) (.c (.bool false)), none, [2, 5]⟩,
  ⟨some 44, .mov (.t 43), none, [6, 2]⟩,
  ⟨some 45, .mov (.t 7), (some (44, true)), [7]⟩,
  ⟨some 46, .ia 1 (.t 45) (.c (.int .i64 0)), (some (44, true)), [8, 7]⟩,
  ⟨some 47, .load none (.t 46), (some (44, true)), [9, 7]⟩,
  ⟨some 48, .mov (.t 1), (some (44, true)), [7]⟩,
  ⟨some 49, .mov (.t 0), (some (44, true)), [7]⟩,
  ⟨some 50, .bin .int .add (.t 49) (.c (.int .i64 1)), (some (44, true)), [12, 7]⟩,
  ⟨some 51, .bin .int .quo (.t 48) (.t 50), (some (44, true)), [11, 13, 7]⟩,
  ⟨some 52, .bin .int .eql (.t 47) (.t 51), (some (44, true)), [10, 14, 7]⟩,
  ⟨some 53, .pick (.t 44) (.t 52) (.c (.bool false)), none, [7, 15]⟩,
  ⟨some 54, .mov (.t 53), none, [16, 7]⟩,
  ⟨some 55, .mov (.t 7), (some (54, true)), [17]⟩,
  ⟨some 56, .ia 1 (.t 55) (.c (.int .i64 1)), (some (54, true)), [18, 17]⟩,
  ⟨some 57, .load none (.t 56), (some (54, true)), [19, 17]⟩,
  ⟨some 58, .mov (.t 1), (some (54, true)), [17]⟩,
  ⟨some 59, .mov (.t 0), (some (54, true)), [17]⟩,
  ⟨some 60, .bin .int .add (.t 59) (.c (.int .i64 1)), (some (54, true)), [22, 17]⟩,
  ⟨some 61, .bin .int .rem (.t 58) (.t 60), (some (54, true)), [21, 23, 17]⟩,
  ⟨some 62, .bin .int .eql (.t 57) (.t 61), (some (54, true)), [20, 24, 17]⟩,
  ⟨some 63, .pick (.t 54) (.t 62) (.c (.bool false)), none, [17, 25]⟩,
  ⟨some 4, .mov (.t 63), none, [26, 17, 0, 1, 2, 3, 4, 5, 6, 7, 8, 9, 10, 11, 12, 13, 14, 15, 16, 17, 18, 19, 20, 21, 22, 23, 24, 25, 26]⟩] [] true)
  (.ret)))))))
def tf89 : TFunc := { np := 2, nt := 64, res := [.tmp 4], own := false, body := tc89 }
noncomputable def S89 (F22 : Int → (Option (List Dim))) (F92 : Err → Int → (Option Bool)) (F98 : (List Dim) → Int → (Option ((List Int) × Err))) (a0 : Int) (a1 : Int) : Option Bool :=
  jn (σ := Bool) (α := Bool) (br (decide (a0 < (1 : Int)))
  (inlO (some true))
  (inlO (some (decide ((10 : Int) < a0))))) fun x1 =>
  br x1
  (some true)
  (bno (F22 a0) fun y2 =>
  bno (F98 y2 a1) fun y3 =>
  jn (σ := Bool) (α := Bool) (br (decide (a1 < (0 : Int)))
  (inlO (some true))
  (inlO (some (decide ((wi ((wi (a0 + (1 : Int))) * (wi (a0 + (1 : Int))))) ≤ a1))))) fun x4 =>
  br x4
  (bno (F92 y3.2 (1 : Int)) fun y5 =>
  some y5)
  (jn (σ := Bool) (α := Bool) (br (Err.isNil y3.2)
  (br (decide (((List.length y3.1 : Nat) : Int) = (2 : Int)))
  (bno (lookI y3.1 (0 : Int)) fun y6 =>
  ck (decide (¬ (wi (a0 + (1 : Int))) = 0)) <|
  br (decide (y6 = (wi (Int.tdiv a1 (wi (a0 + (1 : Int)))))))
  (bno (lookI y3.1 (1 : Int)) fun y7 =>
  ck (decide (¬ (wi (a0 + (1 : Int))) = 0)) <|
  inlO (some (decide (y7 = (Int.tmod a1 (wi (a0 + (1 : Int))))))))
  (inlO (some false)))
  (inlO (some false)))
  (inlO (some false))) fun x8 =>
  some x8))
theorem s89 (F22 : Int → (Option (List Dim))) (F92 : Err → Int → (Option Bool)) (F98 : (List Dim) → Int → (Option ((List Int) × Err))) (a0 : Int) (a1 : Int) : tf89.run [⟨22, [.int], (.st .outl), fun x => F22 x, false⟩,
  ⟨92, [.err, .int], .bool, fun x => F92 x.1 x.2, false⟩,
  ⟨98, [(.st .outl), .int], (.tp [(.sl .int), .err]), fun x => F98 x.1 x.2, false⟩] [.int, .int] .bool (a0, a1) = S89 F22 F92 F98 a0 a1 := by kernel_rfl
noncomputable def P89 (a0 : Int) (a1 : Int) : Option Bool := S89 P22 P92 P98 a0 a1
noncomputable def k89 : CSpec := ⟨89, [.int, .int], .bool, fun x => P89 x.1 x.2, false⟩
theorem r89 {S : Seat} (h : Ok1 S 89 tf89) (h22 : Rt S k22) (h92 : Rt S k92) (h98 : Rt S k98) : Rt S k89 := fun x y hy =>
  Ok1.sound h (C := [k22, k92, k98]) (CSound.cons h22 (CSound.cons h92 (CSound.cons h98 CSound.nil))) rfl rfl rfl ((s89 P22 P92 P98 x.1 x.2).trans hy)

end Ab
