/-
  Functions of the program as typed code, what they come to, and their contracts: written by program (mk.py).
-/
import Derived.Test.YtcabflannjeigaaGreatDoorB2
import Derived.KernelRfl
import Derived.Test.YtcabflannjeigaaGreatDoorMFm
import Derived.Test.YtcabflannjeigaaGreatDoorMFp
import Derived.Test.YtcabflannjeigaaGreatDoorMPa
import Derived.Test.YtcabflannjeigaaGreatDoorC1
namespace Ab
open Go
set_option linter.unusedVariables false
set_option maxRecDepth 100000

/- tallyhall/tallylaw4.FormulaLong -/
def tc236 : TCode :=
  .seq (.region [
  ⟨some 4, .mov (.c (.bool false)), none, []⟩] [] false)
  (.seq (.seq (.regionJ ⟨[.slot 27 .bool], [14, 15, 16, 17, 18, 19, 20, 21, 22, 23, 24, 25, 26], [], []⟩ [
  ⟨some 14, .mov (.t 0), none, []⟩,
  ⟨some 15, .bin .int .lss (.t 14) (.c (.int .i64 1)), none, []⟩,
  ⟨some 16, .mov (.t 15), none, []⟩,
  ⟨some 17, .mov (.t 0), (some (16, false)), []⟩,
  ⟨some 18, .bin .int .gtr (.t 17) (.c (.int .i64 20)), (some (16, false)), []⟩,
  ⟨some 19, .pick (.t 16) (.c (.bool true)) (.t 18), none, []⟩,
  ⟨some 20, .mov (.t 19), none, []⟩,
  ⟨some 21, .mov (.t 1), (some (20, false)), []⟩,
  ⟨some 22, .bin .int .lss (.t 21) (.c (.int .i64 0)), (some (20, false)), []⟩,
  ⟨some 23, .pick (.t 20) (.c (.bool true)) (.t 22), none, []⟩,
  ⟨some 24, .mov (.t 23), none, []⟩,
  ⟨some 25, .mov (.t 1), (some (24, false)), []⟩,
  ⟨some 26, .bin .int .gtr (.t 25) (.c (.int .i64 3)), (some (24, false)), []⟩,
  ⟨some 27, .pick (.t 24) (.c (.bool true)) (.t 26), none, []⟩] [] false)
  (.cond (.t 27)
    (.seq (.region [
  ⟨some 4, .mov (.c (.bool true)), none, []⟩] [] false)
    (.ret))
    (.skip)))
  (.seq (.region [
  ⟨some 5, .mov (.c (.string ⟨#[97, 98]⟩)), none, []⟩] [] false)
  (.seq (.seq (.region [
  ⟨some 6, .mov (.c (.int .i64 1)), none, []⟩] [] false)
  (.loop ⟨[.slot 5 .str, .slot 6 .int], [28, 29, 30, 31, 32, 33, 34, 35, 36, 37, 38, 39], [], []⟩ 0 (.seq (.seq (.region [
  ⟨some 28, .mov (.t 6), none, []⟩,
  ⟨some 29, .mov (.t 0), none, []⟩,
  ⟨some 30, .bin .int .lss (.t 28) (.t 29), none, []⟩] [] false)
    (.cond (.t 30)
      (.skip)
      (.exit 0)))
    (.seq (.block 1 (.region [
  ⟨some 33, .mov (.t 5), none, []⟩,
  ⟨some 34, .mov (.t 1), none, []⟩,
  ⟨some 35, .mov (.t 1), none, []⟩,
  ⟨some 36, .bin .int .add (.t 35) (.c (.int .i64 1)), none, []⟩,
  ⟨some 37, .slc 0 (.c (.string ⟨#[43, 45, 42, 47]⟩)) (some (.t 34)) (some (.t 36)), none, []⟩,
  ⟨some 38, .bin .str .add (.t 33) (.t 37), none, []⟩,
  ⟨some 39, .bin .str .add (.t 38) (.c (.string ⟨#[97, 98]⟩)), none, []⟩,
  ⟨some 5, .mov (.t 39), none, []⟩] [] false))
    (.region [
  ⟨some 31, .mov (.t 6), none, []⟩,
  ⟨some 32, .bin .int .add (.t 31) (.c (.int .i64 1)), none, []⟩,
  ⟨some 6, .mov (.t 32), none, []⟩] [] false)))))
  (.seq (.region [
  ⟨some 41, .mov (.t 5), none, []⟩,
  ⟨some 42, .call true [] 248 [(.t 41)], none, []⟩,
  ⟨some 40, .mov (.t 42), none, []⟩,
  ⟨some 43, .ext (.t 40) 0, none, []⟩,
  ⟨some 44, .ext (.t 40) 1, none, []⟩,
  ⟨some 45, .ext (.t 40) 2, none, []⟩,
  ⟨some 7, .mov (.t 43), none, []⟩,
  ⟨some 8, .mov (.t 44), none, []⟩,
  ⟨some 9, .mov (.t 45), none, []⟩] [] false)
  (.seq (.seq (.region [
  ⟨some 46, .mov (.t 0), none, []⟩,
  ⟨some 47, .bin .int .mul (.c (.int .i64 2)) (.t 46), none, []⟩,
  ⟨some 48, .bin .int .sub (.t 47) (.c (.int .i64 1)), none, []⟩,
  ⟨some 49, .bin .int .gtr (.t 48) (.c (.int .i64 30)), none, []⟩] [] false)
  (.cond (.t 49)
    (.seq (.region [
  ⟨some 50, .mov (.t 9), none, []⟩,
  ⟨some 51, .call false [] 92 [(.t 50), (.c (.int .i64 4))], none, []⟩,
  ⟨some 4, .mov (.t 51), none, []⟩] [] false)
    (.ret))
    (.skip)))
  (.seq (.region [
  ⟨some 53, .mov (.t 7), none, []⟩,
  ⟨some 54, .call false [] 244 [(.t 53)], none, []⟩,
  ⟨some 52, .mov (.t 54), none, []⟩,
  ⟨some 55, .ext (.t 52) 0, none, []⟩,
  ⟨some 56, .ext (.t 52) 1, none, []⟩,
  ⟨some 10, .mov (.t 55), none, []⟩,
  ⟨some 11, .mov (.t 56), none, []⟩] [] false)
  (.seq (.region [
  ⟨some 58, .mov (.t 7), none, []⟩,
  ⟨some 59, .call true [] 245 [(.t 58)], none, []⟩,
  ⟨some 57, .mov (.t 59), none, []⟩,
  ⟨some 60, .ext (.t 57) 0, none, []⟩,
  ⟨some 61, .ext (.t 57) 1, none, []⟩,
  ⟨some 12, .mov (.t 60), none, []⟩,
  ⟨some 13, .mov (.t 61), none, []⟩] [] false)
  (.seq (.regionJ ⟨[.slot 4 .bool], [62, 63, 64, 65, 66, 67, 68, 69, 70, 71, 72, 73, 74, 75, 76, 77, 78, 79, 80, 81, 82, 83, 84, 85, 86, 87, 88, 89, 90, 91, 92, 93, 94, 95], [], []⟩ [
  ⟨some 62, .mov (.t 9), none, []⟩,
  ⟨some 63, .eqn false false (.t 62), none, []⟩,
  ⟨some 64, .mov (.t 63), none, []⟩,
  ⟨some 65, .mov (.t 11), (some (64, true)), []⟩,
  ⟨some 66, .eqn false false (.t 65), (some (64, true)), []⟩,
  ⟨some 67, .pick (.t 64) (.t 66) (.c (.bool false)), none, []⟩,
  ⟨some 68, .mov (.t 67), none, []⟩,
  ⟨some 69, .mov (.t 13), (some (68, true)), []⟩,
  ⟨some 70, .eqn false false (.t 69), (some (68, true)), []⟩,
  ⟨some 71, .pick (.t 68) (.t 70) (.c (.bool false)), none, []⟩,
  ⟨some 72, .mov (.t 71), none, []⟩,
  ⟨some 73, .mov (.t 7), (some (72, true)), []⟩,
  ⟨some 74, .len false (.t 73), (some (72, true)), []⟩,
  ⟨some 75, .mov (.t 0), (some (72, true)), []⟩,
  ⟨some 76, .bin .int .mul (.c (.int .i64 2)) (.t 75), (some (72, true)), []⟩,
  ⟨some 77, .bin .int .sub (.t 76) (.c (.int .i64 1)), (some (72, true)), []⟩,
  ⟨some 78, .bin .int .eql (.t 74) (.t 77), (some (72, true)), []⟩,
  ⟨some 79, .pick (.t 72) (.t 78) (.c (.bool false)), none, []⟩,
  ⟨some 80, .mov (.t 79), none, []⟩,
  ⟨some 81, .mov (.t 10), (some (80, true)), []⟩,
  ⟨some 82, .mov (.t 5), (some (80, true)), []⟩,
  ⟨some 83, .bin .str .eql (.t 81) (.t 82), (some (80, true)), []⟩,
  ⟨some 84, .pick (.t 80) (.t 83) (.c (.bool false)), none, []⟩,
  ⟨some 85, .mov (.t 84), none, []⟩,
  ⟨some 86, .mov (.t 12), (some (85, true)), []⟩,
  ⟨some 87, .len false (.t 86), (some (85, true)), []⟩,
  ⟨some 88, .bin .int .eql (.t 87) (.c (.int .i64 1)), (some (85, true)), []⟩,
  ⟨some 89, .pick (.t 85) (.t 88) (.c (.bool false)), none, []⟩,
  ⟨some 90, .mov (.t 89), none, []⟩,
  ⟨some 91, .mov (.t 12), (some (90, true)), []⟩,
  ⟨some 92, .ia 1 (.t 91) (.c (.int .i64 0)), (some (90, true)), []⟩,
  ⟨some 93, .load none (.t 92), (some (90, true)), []⟩,
  ⟨some 94, .bin .str .eql (.t 93) (.c (.string ⟨#[97, 98]⟩)), (some (90, true)), []⟩,
  ⟨some 95, .pick (.t 90) (.t 94) (.c (.bool false)), none, []⟩,
  ⟨some 4, .mov (.t 95), none, []⟩] [] false)
  (.ret)))))))))
def tf236 : TFunc := { np := 2, nt := 96, res := [.tmp 4], own := false, body := tc236 }
noncomputable def S236_L1 (a0 : Int) (a1 : Int) (x2 : (ByteArray × Int)) : Option (LR (ByteArray × Int) Bool) :=
  br (decide (x2.2 < a0))
  (ck (decide (0 ≤ a1 ∧ a1 ≤ wi (a1 + (1 : Int)) ∧ wi (a1 + (1 : Int)) ≤ ((ByteArray.size (⟨#[43, 45, 42, 47]⟩ : ByteArray) : Nat) : Int))) <|
  ck (decide (ByteArray.size x2.1 + ByteArray.size (ByteArray.extract (⟨#[43, 45, 42, 47]⟩ : ByteArray) (Int.toNat a1) (Int.toNat (wi (a1 + (1 : Int))))) ≤ 9223372036854775807)) <|
  ck (decide (ByteArray.size (x2.1 ++ (ByteArray.extract (⟨#[43, 45, 42, 47]⟩ : ByteArray) (Int.toNat a1) (Int.toNat (wi (a1 + (1 : Int)))))) + ByteArray.size (⟨#[97, 98]⟩ : ByteArray) ≤ 9223372036854775807)) <|
  nxO (some ((x2.1 ++ (ByteArray.extract (⟨#[43, 45, 42, 47]⟩ : ByteArray) (Int.toNat a1) (Int.toNat (wi (a1 + (1 : Int)))))) ++ (⟨#[97, 98]⟩ : ByteArray), wi (x2.2 + (1 : Int)))))
  (dnO (some (x2.1, x2.2)))
noncomputable def S236 (F244 : (List Node) → (Option (ByteArray × Err))) (F245 : (List Node) → (Option ((List ByteArray) × Err))) (F248 : ByteArray → (Option ((List Node) × Int × Err))) (F92 : Err → Int → (Option Bool)) (a0 : Int) (a1 : Int) : Option Bool :=
  jn (σ := Bool) (α := Bool) (br (decide (a0 < (1 : Int)))
  (inlO (some true))
  (br (decide ((20 : Int) < a0))
  (inlO (some true))
  (br (decide (a1 < (0 : Int)))
  (inlO (some true))
  (inlO (some (decide ((3 : Int) < a1))))))) fun x1 =>
  br x1
  (some true)
  (lp (S236_L1 a0 a1) ((⟨#[97, 98]⟩ : ByteArray), (1 : Int)) fun x3 =>
  bno (F248 x3.1) fun y4 =>
  br (decide ((30 : Int) < (wi ((wi ((2 : Int) * a0)) - (1 : Int)))))
  (bno (F92 y4.2.2 (4 : Int)) fun y5 =>
  some y5)
  (bno (F244 y4.1) fun y6 =>
  bno (F245 y4.1) fun y7 =>
  jn (σ := Bool) (α := Bool) (br (Err.isNil y4.2.2)
  (br (Err.isNil y6.2)
  (br (Err.isNil y7.2)
  (br (decide (((List.length y4.1 : Nat) : Int) = (wi ((wi ((2 : Int) * a0)) - (1 : Int)))))
  (br (decide (y6.1 = x3.1))
  (br (decide (((List.length y7.1 : Nat) : Int) = (1 : Int)))
  (bno (lookI y7.1 (0 : Int)) fun y8 =>
  inlO (some (decide (y8 = (⟨#[97, 98]⟩ : ByteArray)))))
  (inlO (some false)))
  (inlO (some false)))
  (inlO (some false)))
  (inlO (some false)))
  (inlO (some false)))
  (inlO (some false))) fun x9 =>
  some x9))
theorem s236 (F244 : (List Node) → (Option (ByteArray × Err))) (F245 : (List Node) → (Option ((List ByteArray) × Err))) (F248 : ByteArray → (Option ((List Node) × Int × Err))) (F92 : Err → Int → (Option Bool)) (a0 : Int) (a1 : Int) : tf236.run [⟨244, [(.sl .node)], (.tp [.str, .err]), fun x => F244 x, false, []⟩,
  ⟨245, [(.sl .node)], (.tp [(.sl .str), .err]), fun x => F245 x, false, []⟩,
  ⟨248, [.str], (.tp [(.sl .node), .int, .err]), fun x => F248 x, false, []⟩,
  ⟨92, [.err, .int], .bool, fun x => F92 x.1 x.2, false, []⟩] [.int, .int] .bool (a0, a1) = S236 F244 F245 F248 F92 a0 a1 := by kernel_rfl
noncomputable def P236 (a0 : Int) (a1 : Int) : Option Bool := S236 P244 P245 P248 P92 a0 a1
noncomputable def k236 : CSpec := ⟨236, [.int, .int], .bool, fun x => P236 x.1 x.2, false, []⟩
theorem r236 {S : Seat} (h : Ok1 S 236 tf236) (h244 : Rt S k244) (h245 : Rt S k245) (h248 : Rt S k248) (h92 : Rt S k92) : Rt S k236 := fun x y hy =>
  Ok1.sound h (C := [k244, k245, k248, k92]) (CSound.cons h244 (CSound.cons h245 (CSound.cons h248 (CSound.cons h92 CSound.nil)))) rfl rfl rfl ((s236 P244 P245 P248 P92 x.1 x.2).trans hy) rfl

end Ab
