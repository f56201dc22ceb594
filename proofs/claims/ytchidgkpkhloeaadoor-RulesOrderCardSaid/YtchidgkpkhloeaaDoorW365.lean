/-
  Functions of the program as typed code, what they come to, and their contracts: written by program (mk.py).
-/
import Derived.Test.YtchidgkpkhloeaaDoorB2
import Derived.KernelRfl
import Derived.Test.YtchidgkpkhloeaaDoorMRu
namespace Ab
open Go
set_option linter.unusedVariables false
set_option maxRecDepth 100000

/- tallyhall/tallylaw2.RulesOrder -/
def tc365 : TCode :=
  .seq (.region [
  ⟨some 1, .box (.t 0), none, []⟩,
  ⟨some 2, .mov (.c (.bool false)), none, []⟩] [] false)
  (.seq (.region [
  ⟨some 15, .build [.string ⟨#[]⟩, .int .i64 0, .int .i64 0, .string ⟨#[]⟩] [(0, 1, (.c (.string ⟨#[98]⟩))), (1, 1, (.c (.int .i64 (-1)))), (3, 1, (.c (.string ⟨#[99, 43, 49]⟩)))], none, []⟩,
  ⟨some 16, .build [.string ⟨#[]⟩, .int .i64 0, .int .i64 0, .string ⟨#[]⟩] [(0, 1, (.c (.string ⟨#[99]⟩))), (1, 1, (.c (.int .i64 (-1))))], none, []⟩,
  ⟨some 17, .bslice false 4 [.string ⟨#[]⟩, .int .i64 0, .int .i64 0, .string ⟨#[]⟩] 2 [(0, (.t 15)), (1, (.t 16))], none, []⟩,
  ⟨some 18, .build [.string ⟨#[]⟩, .int .i64 0, .slice none 0 0] [(0, 1, (.c (.string ⟨#[97]⟩))), (2, 1, (.t 17))], none, []⟩,
  ⟨some 3, .alloc [.string ⟨#[]⟩, .int .i64 0, .slice none 0 0], none, []⟩,
  ⟨none, .store 3 (.t 3) (.t 18), none, []⟩] [.int, .int, .member] false)
  (.seq (.region [
  ⟨some 20, .load (some 3) (.t 3), none, []⟩,
  ⟨some 21, .call true [] 316 [(.t 20)], none, []⟩,
  ⟨some 19, .mov (.t 21), none, []⟩,
  ⟨some 22, .ext (.t 19) 0, none, []⟩,
  ⟨some 23, .ext (.t 19) 1, none, []⟩,
  ⟨some 4, .mov (.t 22), none, []⟩,
  ⟨some 5, .mov (.t 23), none, []⟩] [] false)
  (.seq (.seq (.regionJ ⟨[.slot 36 .bool], [24, 25, 26, 27, 28, 29, 30, 31, 32, 33, 34, 35], [], []⟩ [
  ⟨some 24, .mov (.t 5), none, []⟩,
  ⟨some 25, .eqn false true (.t 24), none, []⟩,
  ⟨some 26, .mov (.t 25), none, []⟩,
  ⟨some 27, .mov (.t 4), (some (26, false)), []⟩,
  ⟨some 28, .len false (.t 27), (some (26, false)), []⟩,
  ⟨some 29, .bin .int .neq (.t 28) (.c (.int .i64 2)), (some (26, false)), []⟩,
  ⟨some 30, .pick (.t 26) (.c (.bool true)) (.t 29), none, []⟩,
  ⟨some 31, .mov (.t 30), none, []⟩,
  ⟨some 32, .mov (.t 4), (some (31, false)), []⟩,
  ⟨some 33, .ia 1 (.t 32) (.c (.int .i64 0)), (some (31, false)), []⟩,
  ⟨some 34, .load none (.t 33), (some (31, false)), []⟩,
  ⟨some 35, .bin .int .neq (.t 34) (.c (.int .i64 1)), (some (31, false)), []⟩,
  ⟨some 36, .pick (.t 31) (.c (.bool true)) (.t 35), none, []⟩] [] false)
  (.cond (.t 36)
    (.seq (.region [
  ⟨some 2, .mov (.c (.bool false)), none, []⟩] [] false)
    (.ret))
    (.skip)))
  (.seq (.region [
  ⟨some 38, .load (some 3) (.t 1), none, []⟩,
  ⟨some 39, .call true [] 316 [(.t 38)], none, []⟩,
  ⟨some 37, .mov (.t 39), none, []⟩,
  ⟨some 40, .ext (.t 37) 0, none, []⟩,
  ⟨some 41, .ext (.t 37) 1, none, []⟩,
  ⟨some 6, .mov (.t 40), none, []⟩,
  ⟨some 7, .mov (.t 41), none, []⟩] [] false)
  (.seq (.seq (.region [
  ⟨some 42, .mov (.t 7), none, []⟩,
  ⟨some 43, .eqn false true (.t 42), none, []⟩] [] false)
  (.cond (.t 43)
    (.seq (.region [
  ⟨some 45, .load (some 3) (.t 1), none, []⟩,
  ⟨some 46, .call false [] 315 [(.t 45)], none, []⟩,
  ⟨some 44, .mov (.t 46), none, []⟩,
  ⟨some 47, .ext (.t 44) 0, none, []⟩,
  ⟨some 48, .ext (.t 44) 1, none, []⟩,
  ⟨some 8, .mov (.t 47), none, []⟩,
  ⟨some 9, .mov (.t 48), none, []⟩] [] false)
    (.seq (.region [
  ⟨some 49, .mov (.t 9), none, []⟩,
  ⟨some 50, .eqn false true (.t 49), none, []⟩,
  ⟨some 2, .mov (.t 50), none, []⟩] [] false)
    (.ret)))
    (.skip)))
  (.seq (.seq (.region [
  ⟨some 51, .mov (.t 6), none, []⟩,
  ⟨some 52, .len false (.t 51), none, []⟩,
  ⟨some 53, .fa 2 (.t 1), none, []⟩,
  ⟨some 54, .load none (.t 53), none, []⟩,
  ⟨some 55, .len false (.t 54), none, []⟩,
  ⟨some 56, .bin .int .neq (.t 52) (.t 55), none, []⟩] [] false)
  (.cond (.t 56)
    (.seq (.region [
  ⟨some 2, .mov (.c (.bool false)), none, []⟩] [] false)
    (.ret))
    (.skip)))
  (.seq (.region [
  ⟨some 57, .mov (.t 6), none, []⟩,
  ⟨some 58, .len false (.t 57), none, []⟩,
  ⟨some 59, .mksl 1 [.bool false] (.t 58) (.t 58), none, []⟩,
  ⟨some 10, .mov (.t 59), none, []⟩] [.int, .int, .bool] false)
  (.seq (.seq (.region [
  ⟨some 11, .mov (.c (.int .i64 0)), none, []⟩] [] false)
  (.loop ⟨[.slot 11 .int, .rowH 59 .bool], [12, 13, 14, 60, 61, 62, 63, 64, 65, 66, 67, 68, 69, 70, 71, 72, 73, 74, 75, 76, 77, 78, 79, 80, 81, 82, 83, 84, 85, 86, 87, 88, 89, 90, 91, 92, 93, 94, 95, 96, 97, 98, 99, 100, 101, 102, 103, 104, 105, 106, 107, 108, 109, 110, 111, 112, 113, 114, 115, 116, 117, 118, 119, 120, 121, 122, 123, 124, 125, 126, 127, 128, 129, 130, 131, 132, 133, 134, 135], [], []⟩ 0 (.seq (.seq (.region [
  ⟨some 60, .mov (.t 11), none, []⟩,
  ⟨some 61, .mov (.t 6), none, []⟩,
  ⟨some 62, .len false (.t 61), none, []⟩,
  ⟨some 63, .bin .int .lss (.t 60) (.t 62), none, []⟩] [] false)
    (.cond (.t 63)
      (.skip)
      (.exit 0)))
    (.seq (.block 1 (.seq (.seq (.regionJ ⟨[.slot 88 .bool], [66, 67, 68, 69, 70, 71, 72, 73, 74, 75, 76, 77, 78, 79, 80, 81, 82, 83, 84, 85, 86, 87], [], []⟩ [
  ⟨some 66, .mov (.t 6), none, []⟩,
  ⟨some 67, .mov (.t 11), none, []⟩,
  ⟨some 68, .ia 1 (.t 66) (.t 67), none, []⟩,
  ⟨some 69, .load none (.t 68), none, []⟩,
  ⟨some 70, .bin .int .lss (.t 69) (.c (.int .i64 0)), none, []⟩,
  ⟨some 71, .mov (.t 70), none, []⟩,
  ⟨some 72, .mov (.t 6), (some (71, false)), []⟩,
  ⟨some 73, .mov (.t 11), (some (71, false)), []⟩,
  ⟨some 74, .ia 1 (.t 72) (.t 73), (some (71, false)), []⟩,
  ⟨some 75, .load none (.t 74), (some (71, false)), []⟩,
  ⟨some 76, .mov (.t 6), (some (71, false)), []⟩,
  ⟨some 77, .len false (.t 76), (some (71, false)), []⟩,
  ⟨some 78, .bin .int .geq (.t 75) (.t 77), (some (71, false)), []⟩,
  ⟨some 79, .pick (.t 71) (.c (.bool true)) (.t 78), none, []⟩,
  ⟨some 80, .mov (.t 79), none, []⟩,
  ⟨some 81, .mov (.t 10), (some (80, false)), []⟩,
  ⟨some 82, .mov (.t 6), (some (80, false)), []⟩,
  ⟨some 83, .mov (.t 11), (some (80, false)), []⟩,
  ⟨some 84, .ia 1 (.t 82) (.t 83), (some (80, false)), []⟩,
  ⟨some 85, .load none (.t 84), (some (80, false)), []⟩,
  ⟨some 86, .ia 1 (.t 81) (.t 85), (some (80, false)), []⟩,
  ⟨some 87, .load none (.t 86), (some (80, false)), []⟩,
  ⟨some 88, .pick (.t 80) (.c (.bool true)) (.t 87), none, []⟩] [] false)
      (.cond (.t 88)
        (.seq (.region [
  ⟨some 2, .mov (.c (.bool false)), none, []⟩] [] false)
        (.ret))
        (.skip)))
      (.seq (.region [
  ⟨some 90, .load (some 3) (.t 1), none, []⟩,
  ⟨some 91, .mov (.t 6), none, []⟩,
  ⟨some 92, .mov (.t 11), none, []⟩,
  ⟨some 93, .ia 1 (.t 91) (.t 92), none, [1, 2]⟩,
  ⟨some 94, .load none (.t 93), none, [3]⟩,
  ⟨some 95, .call true [] 323 [(.t 90), (.t 94)], none, [0, 4]⟩,
  ⟨some 89, .mov (.t 95), none, [5]⟩,
  ⟨some 96, .ext (.t 89) 0, none, [6]⟩,
  ⟨some 97, .ext (.t 89) 1, none, [6]⟩,
  ⟨some 12, .mov (.t 96), none, [7, 5, 0, 1, 2, 3, 4, 5, 6, 7]⟩,
  ⟨some 13, .mov (.t 97), none, [8, 9, 0, 1, 2, 3, 4, 5, 6, 7, 8, 9]⟩] [] true)
      (.seq (.seq (.region [
  ⟨some 98, .mov (.t 13), none, []⟩,
  ⟨some 99, .eqn false true (.t 98), none, []⟩] [] false)
      (.cond (.t 99)
        (.seq (.region [
  ⟨some 2, .mov (.c (.bool false)), none, []⟩] [] false)
        (.ret))
        (.skip)))
      (.seq (.seq (.region [
  ⟨some 14, .mov (.c (.int .i64 0)), none, []⟩] [] false)
      (.loop ⟨[.slot 14 .int], [100, 101, 102, 103, 104, 105, 106, 107, 108, 109, 110, 111, 112, 113, 114, 115, 116, 117, 118, 119, 120, 121, 122, 123, 124, 125, 126, 127, 128, 129], [], []⟩ 2 (.seq (.seq (.region [
  ⟨some 100, .mov (.t 14), none, []⟩,
  ⟨some 101, .mov (.t 12), none, []⟩,
  ⟨some 102, .len false (.t 101), none, []⟩,
  ⟨some 103, .bin .int .lss (.t 100) (.t 102), none, []⟩] [] false)
        (.cond (.t 103)
          (.skip)
          (.exit 2)))
        (.seq (.block 3 (.seq (.regionJ ⟨[.slot 129 .bool], [106, 107, 108, 109, 110, 111, 112, 113, 114, 115, 116, 117, 118, 119, 120, 121, 122, 123, 124, 125, 126, 127, 128], [], []⟩ [
  ⟨some 106, .mov (.t 12), none, []⟩,
  ⟨some 107, .mov (.t 14), none, []⟩,
  ⟨some 108, .ia 1 (.t 106) (.t 107), none, []⟩,
  ⟨some 109, .load none (.t 108), none, []⟩,
  ⟨some 110, .bin .int .lss (.t 109) (.c (.int .i64 0)), none, []⟩,
  ⟨some 111, .mov (.t 110), none, []⟩,
  ⟨some 112, .mov (.t 12), (some (111, false)), []⟩,
  ⟨some 113, .mov (.t 14), (some (111, false)), []⟩,
  ⟨some 114, .ia 1 (.t 112) (.t 113), (some (111, false)), []⟩,
  ⟨some 115, .load none (.t 114), (some (111, false)), []⟩,
  ⟨some 116, .mov (.t 6), (some (111, false)), []⟩,
  ⟨some 117, .len false (.t 116), (some (111, false)), []⟩,
  ⟨some 118, .bin .int .geq (.t 115) (.t 117), (some (111, false)), []⟩,
  ⟨some 119, .pick (.t 111) (.c (.bool true)) (.t 118), none, []⟩,
  ⟨some 120, .mov (.t 119), none, []⟩,
  ⟨some 121, .mov (.t 10), (some (120, false)), []⟩,
  ⟨some 122, .mov (.t 12), (some (120, false)), []⟩,
  ⟨some 123, .mov (.t 14), (some (120, false)), []⟩,
  ⟨some 124, .ia 1 (.t 122) (.t 123), (some (120, false)), []⟩,
  ⟨some 125, .load none (.t 124), (some (120, false)), []⟩,
  ⟨some 126, .ia 1 (.t 121) (.t 125), (some (120, false)), []⟩,
  ⟨some 127, .load none (.t 126), (some (120, false)), []⟩,
  ⟨some 128, .un .not (.t 127), (some (120, false)), []⟩,
  ⟨some 129, .pick (.t 120) (.c (.bool true)) (.t 128), none, []⟩] [] false)
          (.cond (.t 129)
            (.seq (.region [
  ⟨some 2, .mov (.c (.bool false)), none, []⟩] [] false)
            (.ret))
            (.skip))))
        (.region [
  ⟨some 104, .mov (.t 14), none, []⟩,
  ⟨some 105, .bin .int .add (.t 104) (.c (.int .i64 1)), none, []⟩,
  ⟨some 14, .mov (.t 105), none, []⟩] [] false)))))
      (.region [
  ⟨some 130, .mov (.t 10), none, []⟩,
  ⟨some 131, .mov (.t 6), none, []⟩,
  ⟨some 132, .mov (.t 11), none, []⟩,
  ⟨some 133, .ia 1 (.t 131) (.t 132), none, []⟩,
  ⟨some 134, .load none (.t 133), none, []⟩,
  ⟨some 135, .ia 1 (.t 130) (.t 134), none, []⟩,
  ⟨none, .store 1 (.t 135) (.c (.bool true)), none, []⟩] [] false))))))
    (.region [
  ⟨some 64, .mov (.t 11), none, []⟩,
  ⟨some 65, .bin .int .add (.t 64) (.c (.int .i64 1)), none, []⟩,
  ⟨some 11, .mov (.t 65), none, []⟩] [] false)))))
  (.seq (.region [
  ⟨some 2, .mov (.c (.bool true)), none, []⟩] [] false)
  (.ret))))))))))
def tf365 : TFunc := { np := 1, nt := 136, res := [.tmp 2], own := false, body := tc365 }
noncomputable def S365_L1 (y4 : ((List Int) × Err)) (x6 : (Int × (List Bool))) (y13 : ((List Int) × Err)) (x14 : Int) : Option (LR Int (LR (Int × (List Bool)) Bool)) :=
  br (decide (x14 < ((List.length y13.1 : Nat) : Int)))
  (jn (σ := Bool) (α := (LR Int (LR (Int × (List Bool)) Bool))) (bno (lookI y13.1 x14) fun y15 =>
  br (decide (y15 < (0 : Int)))
  (inlO (some true))
  (bno (lookI y13.1 x14) fun y16 =>
  br (decide (((List.length y4.1 : Nat) : Int) ≤ y16))
  (inlO (some true))
  (bno (lookI y13.1 x14) fun y17 =>
  ck (decide (0 ≤ y17 ∧ y17 < ((List.length x6.2 : Nat) : Int))) <|
  bno ((x6.2)[(Int.toNat y17)]?) fun y18 =>
  inlO (some (!y18))))) fun x19 =>
  br x19
  (finO (finO (some false)))
  (nxO (some (wi (x14 + (1 : Int))))))
  (dnO (some x14))
noncomputable def S365_L2 (F323 : Dim → Int → (Option ((List Int) × Err))) (a0 : Dim) (y4 : ((List Int) × Err)) (x6 : (Int × (List Bool))) : Option (LR (Int × (List Bool)) Bool) :=
  br (decide (x6.1 < ((List.length y4.1 : Nat) : Int)))
  (jn (σ := Bool) (α := (LR (Int × (List Bool)) Bool)) (bno (lookI y4.1 x6.1) fun y7 =>
  br (decide (y7 < (0 : Int)))
  (inlO (some true))
  (bno (lookI y4.1 x6.1) fun y8 =>
  br (decide (((List.length y4.1 : Nat) : Int) ≤ y8))
  (inlO (some true))
  (bno (lookI y4.1 x6.1) fun y9 =>
  ck (decide (0 ≤ y9 ∧ y9 < ((List.length x6.2 : Nat) : Int))) <|
  bno ((x6.2)[(Int.toNat y9)]?) fun y10 =>
  inlO (some y10)))) fun x11 =>
  br x11
  (finO (some false))
  (bno (lookI y4.1 x6.1) fun y12 =>
  bno (F323 a0 y12) fun y13 =>
  br (!(Err.isNil y13.2))
  (finO (some false))
  (lp (S365_L1 y4 x6 y13) (0 : Int) fun x20 =>
  bno (lookI y4.1 x6.1) fun y21 =>
  ck (decide (0 ≤ y21 ∧ y21 < ((List.length x6.2 : Nat) : Int))) <|
  bno ((x6.2)[(Int.toNat y21)]?) fun y22 =>
  nxO (some (wi (x6.1 + (1 : Int)), List.set x6.2 (Int.toNat y21) true)))))
  (dnO (some (x6.1, x6.2)))
noncomputable def S365 (F315 : Dim → (Option (Int × Err))) (F316 : Dim → (Option ((List Int) × Err))) (F323 : Dim → Int → (Option ((List Int) × Err))) (a0 : Dim) : Option Bool :=
  bno (F316 (Dim.mk (⟨#[97]⟩ : ByteArray) (0 : Int) ([Member.mk (⟨#[98]⟩ : ByteArray) (-1 : Int) (0 : Int) (⟨#[99, 43, 49]⟩ : ByteArray), Member.mk (⟨#[99]⟩ : ByteArray) (-1 : Int) (0 : Int) (⟨#[]⟩ : ByteArray)] : List Member))) fun y1 =>
  jn (σ := Bool) (α := Bool) (br (!(Err.isNil y1.2))
  (inlO (some true))
  (br (decide (¬ ((List.length y1.1 : Nat) : Int) = (2 : Int)))
  (inlO (some true))
  (bno (lookI y1.1 (0 : Int)) fun y2 =>
  inlO (some (decide (¬ y2 = (1 : Int))))))) fun x3 =>
  br x3
  (some false)
  (bno (F316 a0) fun y4 =>
  br (!(Err.isNil y4.2))
  (bno (F315 a0) fun y5 =>
  some (!(Err.isNil y5.2)))
  (br (decide (¬ ((List.length y4.1 : Nat) : Int) = ((List.length (Dim.members a0) : Nat) : Int)))
  (some false)
  (ck (decide (0 ≤ ((List.length y4.1 : Nat) : Int) ∧ ((List.length y4.1 : Nat) : Int) ≤ ((List.length y4.1 : Nat) : Int) ∧ ((List.length y4.1 : Nat) : Int) ≤ roomA)) <|
  lp (S365_L2 F323 a0 y4) ((0 : Int), List.replicate (Int.toNat ((List.length y4.1 : Nat) : Int)) false) fun x23 =>
  some true)))
theorem s365 (F315 : Dim → (Option (Int × Err))) (F316 : Dim → (Option ((List Int) × Err))) (F323 : Dim → Int → (Option ((List Int) × Err))) (a0 : Dim) : tf365.run [⟨315, [(.st .dim)], (.tp [.int, .err]), fun x => F315 x, false, []⟩,
  ⟨316, [(.st .dim)], (.tp [(.sl .int), .err]), fun x => F316 x, false, []⟩,
  ⟨323, [(.st .dim), .int], (.tp [(.sl .int), .err]), fun x => F323 x.1 x.2, false, []⟩] [(.st .dim)] .bool a0 = S365 F315 F316 F323 a0 := by kernel_rfl
noncomputable def P365 (a0 : Dim) : Option Bool := S365 P315 P316 P323 a0
noncomputable def k365 : CSpec := ⟨365, [(.st .dim)], .bool, fun x => P365 x, false, []⟩
theorem r365 {S : Seat} (h : Ok1 S 365 tf365) (h315 : Rt S k315) (h316 : Rt S k316) (h323 : Rt S k323) : Rt S k365 := fun x y hy =>
  Ok1.sound h (C := [k315, k316, k323]) (CSound.cons h315 (CSound.cons h316 (CSound.cons h323 CSound.nil))) rfl rfl rfl ((s365 P315 P316 P323 x).trans hy) rfl

end Ab
