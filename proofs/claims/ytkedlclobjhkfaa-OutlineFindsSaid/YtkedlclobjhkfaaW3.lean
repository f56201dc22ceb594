/-
  Functions of the program as typed code, what they come to, and their contracts: written by program (mk.py).
-/
import Derived.Test.YtkedlclobjhkfaaTL
import Derived.KernelRfl
import Derived.Test.YtkedlclobjhkfaaMO
namespace Ab
open Go
set_option linter.unusedVariables false
set_option maxRecDepth 100000

/- tallyhall/tallylaw1.OutlineFinds -/
def tc3 : TCode :=
  .seq (.region [
  ⟨some 1, .box (.t 0), none, []⟩,
  ⟨some 2, .mov (.c (.bool false)), none, []⟩] [] false)
  (.seq (.region [
  ⟨some 15, .build [.string ⟨#[]⟩, .int .i64 0, .int .i64 0, .string ⟨#[]⟩] [(0, 1, (.c (.string ⟨#[98]⟩))), (1, 1, (.c (.int .i64 (-1))))], none, []⟩,
  ⟨some 16, .build [.string ⟨#[]⟩, .int .i64 0, .int .i64 0, .string ⟨#[]⟩] [(0, 1, (.c (.string ⟨#[99]⟩))), (1, 1, (.c (.int .i64 0)))], none, []⟩,
  ⟨some 17, .bslice false 4 [.string ⟨#[]⟩, .int .i64 0, .int .i64 0, .string ⟨#[]⟩] 2 [(0, (.t 15)), (1, (.t 16))], none, []⟩,
  ⟨some 18, .build [.string ⟨#[]⟩, .int .i64 0, .slice none 0 0] [(0, 1, (.c (.string ⟨#[97]⟩))), (2, 1, (.t 17))], none, []⟩,
  ⟨some 3, .alloc [.string ⟨#[]⟩, .int .i64 0, .slice none 0 0], none, []⟩,
  ⟨none, .store 3 (.t 3) (.t 18), none, []⟩] [.int, .int, .member] false)
  (.seq (.region [
  ⟨some 20, .load (some 3) (.t 3), none, []⟩,
  ⟨some 21, .call false [] 13 [(.t 20), (.c (.string ⟨#[99]⟩))], none, []⟩,
  ⟨some 19, .mov (.t 21), none, []⟩,
  ⟨some 22, .ext (.t 19) 0, none, []⟩,
  ⟨some 23, .ext (.t 19) 1, none, []⟩,
  ⟨some 4, .mov (.t 22), none, []⟩,
  ⟨some 5, .mov (.t 23), none, []⟩] [] false)
  (.seq (.seq (.regionJ ⟨[.slot 29 .bool], [24, 25, 26, 27, 28], [], []⟩ [
  ⟨some 24, .mov (.t 5), none, []⟩,
  ⟨some 25, .eqn false true (.t 24), none, []⟩,
  ⟨some 26, .mov (.t 25), none, []⟩,
  ⟨some 27, .mov (.t 4), (some (26, false)), []⟩,
  ⟨some 28, .bin .int .neq (.t 27) (.c (.int .i64 1)), (some (26, false)), []⟩,
  ⟨some 29, .pick (.t 26) (.c (.bool true)) (.t 28), none, []⟩] [] false)
  (.cond (.t 29)
    (.seq (.region [
  ⟨some 2, .mov (.c (.bool false)), none, []⟩] [] false)
    (.ret))
    (.skip)))
  (.seq (.region [
  ⟨some 31, .load (some 1) (.t 1), none, []⟩,
  ⟨some 32, .call false [] 14 [(.t 31)], none, []⟩,
  ⟨some 30, .mov (.t 32), none, []⟩,
  ⟨some 33, .ext (.t 30) 0, none, []⟩,
  ⟨some 34, .ext (.t 30) 1, none, []⟩,
  ⟨some 35, .ext (.t 30) 2, none, []⟩,
  ⟨some 6, .mov (.t 33), none, []⟩,
  ⟨some 7, .mov (.t 34), none, []⟩,
  ⟨some 8, .mov (.t 35), none, []⟩] [] false)
  (.seq (.seq (.region [
  ⟨some 36, .mov (.t 8), none, []⟩,
  ⟨some 37, .eqn false true (.t 36), none, []⟩] [] false)
  (.cond (.t 37)
    (.seq (.region [
  ⟨some 2, .mov (.c (.bool true)), none, []⟩] [] false)
    (.ret))
    (.skip)))
  (.seq (.seq (.region [
  ⟨some 9, .mov (.c (.int .i64 0)), none, []⟩] [] false)
  (.loop ⟨[.slot 9 .int], [10, 11, 12, 13, 14, 38, 39, 40, 41, 42, 43, 44, 45, 46, 47, 48, 49, 50, 51, 52, 53, 54, 55, 56, 57, 58, 59, 60, 61, 62, 63, 64, 65, 66, 67, 68, 69, 70, 71, 72, 73, 74, 75, 76, 77, 78, 79, 80, 81, 82, 83, 84, 85, 86, 87, 88, 89, 90, 91, 92, 93, 94, 95, 96], [], []⟩ 0 (.seq (.seq (.region [
  ⟨some 38, .mov (.t 9), none, []⟩,
  ⟨some 39, .fa 0 (.t 1), none, []⟩,
  ⟨some 40, .load none (.t 39), none, []⟩,
  ⟨some 41, .len false (.t 40), none, []⟩,
  ⟨some 42, .bin .int .lss (.t 38) (.t 41), none, []⟩] [] false)
    (.cond (.t 42)
      (.skip)
      (.exit 0)))
    (.seq (.block 1 (.seq (.region [
  ⟨some 46, .fa 0 (.t 1), none, []⟩,
  ⟨some 47, .load none (.t 46), none, []⟩,
  ⟨some 48, .mov (.t 9), none, []⟩,
  ⟨some 49, .ia 3 (.t 47) (.t 48), none, []⟩,
  ⟨some 50, .load (some 3) (.t 49), none, []⟩,
  ⟨some 51, .call false [] 15 [(.t 50)], none, []⟩,
  ⟨some 45, .mov (.t 51), none, []⟩,
  ⟨some 52, .ext (.t 45) 0, none, []⟩,
  ⟨some 53, .ext (.t 45) 1, none, []⟩,
  ⟨some 10, .mov (.t 52), none, []⟩,
  ⟨some 11, .mov (.t 53), none, []⟩] [] false)
      (.seq (.seq (.regionJ ⟨[.slot 59 .bool], [54, 55, 56, 57, 58], [], []⟩ [
  ⟨some 54, .mov (.t 11), none, []⟩,
  ⟨some 55, .eqn false true (.t 54), none, []⟩,
  ⟨some 56, .mov (.t 55), none, []⟩,
  ⟨some 57, .mov (.t 10), (some (56, false)), []⟩,
  ⟨some 58, .bin .int .neq (.t 57) (.c (.int .i64 (-1))), (some (56, false)), []⟩,
  ⟨some 59, .pick (.t 56) (.c (.bool true)) (.t 58), none, []⟩] [] false)
      (.cond (.t 59)
        (.seq (.region [
  ⟨some 2, .mov (.c (.bool false)), none, []⟩] [] false)
        (.ret))
        (.skip)))
      (.seq (.region [
  ⟨some 12, .mov (.c (.int .i64 0)), none, []⟩] [] false)
      (.loop ⟨[.slot 12 .int], [13, 14, 60, 61, 62, 63, 64, 65, 66, 67, 68, 69, 70, 71, 72, 73, 74, 75, 76, 77, 78, 79, 80, 81, 82, 83, 84, 85, 86, 87, 88, 89, 90, 91, 92, 93, 94, 95, 96], [], []⟩ 2 (.seq (.seq (.region [
  ⟨some 60, .mov (.t 12), none, []⟩,
  ⟨some 61, .fa 0 (.t 1), none, []⟩,
  ⟨some 62, .load none (.t 61), none, []⟩,
  ⟨some 63, .mov (.t 9), none, []⟩,
  ⟨some 64, .ia 3 (.t 62) (.t 63), none, []⟩,
  ⟨some 65, .fa 2 (.t 64), none, []⟩,
  ⟨some 66, .load none (.t 65), none, []⟩,
  ⟨some 67, .len false (.t 66), none, []⟩,
  ⟨some 68, .bin .int .lss (.t 60) (.t 67), none, []⟩] [] false)
        (.cond (.t 68)
          (.skip)
          (.exit 2)))
        (.seq (.block 3 (.seq (.region [
  ⟨some 72, .fa 0 (.t 1), none, []⟩,
  ⟨some 73, .load none (.t 72), none, [0]⟩,
  ⟨some 74, .mov (.t 9), none, []⟩,
  ⟨some 75, .ia 3 (.t 73) (.t 74), none, [1, 2]⟩,
  ⟨some 76, .load (some 3) (.t 75), none, [3]⟩,
  ⟨some 77, .fa 0 (.t 1), none, []⟩,
  ⟨some 78, .load none (.t 77), none, [5]⟩,
  ⟨some 79, .mov (.t 9), none, []⟩,
  ⟨some 80, .ia 3 (.t 78) (.t 79), none, [6, 7]⟩,
  ⟨some 81, .fa 2 (.t 80), none, [8]⟩,
  ⟨some 82, .load none (.t 81), none, [9]⟩,
  ⟨some 83, .mov (.t 12), none, []⟩,
  ⟨some 84, .ia 4 (.t 82) (.t 83), none, [10, 11]⟩,
  ⟨some 85, .fa 0 (.t 84), none, [12]⟩,
  ⟨some 86, .load none (.t 85), none, [13]⟩,
  ⟨some 87, .call false [] 13 [(.t 76), (.t 86)], none, [4, 14]⟩,
  ⟨some 71, .mov (.t 87), none, [15]⟩,
  ⟨some 88, .ext (.t 71) 0, none, [16]⟩,
  ⟨some 89, .ext (.t 71) 1, none, [16]⟩,
  ⟨some 13, .mov (.t 88), none, [17, 15, 0, 1, 2, 3, 4, 5, 6, 7, 8, 9, 10, 11, 12, 13, 14, 15, 16, 17]⟩,
  ⟨some 14, .mov (.t 89), none, [18, 19, 0, 1, 2, 3, 4, 5, 6, 7, 8, 9, 10, 11, 12, 13, 14, 15, 16, 17, 18, 19]⟩] [] true)
          (.seq (.regionJ ⟨[.slot 96 .bool], [90, 91, 92, 93, 94, 95], [], []⟩ [
  ⟨some 90, .mov (.t 14), none, []⟩,
  ⟨some 91, .eqn false true (.t 90), none, []⟩,
  ⟨some 92, .mov (.t 91), none, []⟩,
  ⟨some 93, .mov (.t 13), (some (92, false)), []⟩,
  ⟨some 94, .mov (.t 12), (some (92, false)), []⟩,
  ⟨some 95, .bin .int .neq (.t 93) (.t 94), (some (92, false)), []⟩,
  ⟨some 96, .pick (.t 92) (.c (.bool true)) (.t 95), none, []⟩] [] false)
          (.cond (.t 96)
            (.seq (.region [
  ⟨some 2, .mov (.c (.bool false)), none, []⟩] [] false)
            (.ret))
            (.skip)))))
        (.region [
  ⟨some 69, .mov (.t 12), none, []⟩,
  ⟨some 70, .bin .int .add (.t 69) (.c (.int .i64 1)), none, []⟩,
  ⟨some 12, .mov (.t 70), none, []⟩] [] false))))))))
    (.region [
  ⟨some 43, .mov (.t 9), none, []⟩,
  ⟨some 44, .bin .int .add (.t 43) (.c (.int .i64 1)), none, []⟩,
  ⟨some 9, .mov (.t 44), none, []⟩] [] false)))))
  (.seq (.region [
  ⟨some 2, .mov (.c (.bool true)), none, []⟩] [] false)
  (.ret))))))))
def tf3 : TFunc := { np := 1, nt := 97, res := [.tmp 2], own := false, body := tc3 }
noncomputable def S3_L1 (F13 : Dim → ByteArray → (Option (Int × Err))) (a0 : (List Dim)) (x4 : Int) (x8 : Int) : Option (LR Int (LR Int Bool)) :=
  bno (lookI a0 x4) fun y9 =>
  br (decide (x8 < ((List.length (Dim.members y9) : Nat) : Int)))
  (bno (lookI a0 x4) fun y10 =>
  bno (lookI a0 x4) fun y11 =>
  bno (lookI (Dim.members y11) x8) fun y12 =>
  bno (F13 y10 (Member.name y12)) fun y13 =>
  jn (σ := Bool) (α := (LR Int (LR Int Bool))) (br (!(Err.isNil y13.2))
  (inlO (some true))
  (inlO (some (decide (¬ y13.1 = x8))))) fun x14 =>
  br x14
  (finO (finO (some false)))
  (nxO (some (wi (x8 + (1 : Int))))))
  (dnO (some x8))
noncomputable def S3_L2 (F13 : Dim → ByteArray → (Option (Int × Err))) (F15 : Dim → (Option (Int × Err))) (a0 : (List Dim)) (x4 : Int) : Option (LR Int Bool) :=
  br (decide (x4 < ((List.length a0 : Nat) : Int)))
  (bno (lookI a0 x4) fun y5 =>
  bno (F15 y5) fun y6 =>
  jn (σ := Bool) (α := (LR Int Bool)) (br (!(Err.isNil y6.2))
  (inlO (some true))
  (inlO (some (decide (¬ y6.1 = (-1 : Int)))))) fun x7 =>
  br x7
  (finO (some false))
  (lp (S3_L1 F13 a0 x4) (0 : Int) fun x15 =>
  nxO (some (wi (x4 + (1 : Int))))))
  (dnO (some x4))
noncomputable def S3 (F13 : Dim → ByteArray → (Option (Int × Err))) (F14 : (List Dim) → (Option (Int × Int × Err))) (F15 : Dim → (Option (Int × Err))) (a0 : (List Dim)) : Option Bool :=
  bno (F13 (Dim.mk (⟨#[97]⟩ : ByteArray) (0 : Int) ([Member.mk (⟨#[98]⟩ : ByteArray) (-1 : Int) (0 : Int) (⟨#[]⟩ : ByteArray), Member.mk (⟨#[99]⟩ : ByteArray) (0 : Int) (0 : Int) (⟨#[]⟩ : ByteArray)] : List Member)) (⟨#[99]⟩ : ByteArray)) fun y1 =>
  jn (σ := Bool) (α := Bool) (br (!(Err.isNil y1.2))
  (inlO (some true))
  (inlO (some (decide (¬ y1.1 = (1 : Int)))))) fun x2 =>
  br x2
  (some false)
  (bno (F14 a0) fun y3 =>
  br (!(Err.isNil y3.2.2))
  (some true)
  (lp (S3_L2 F13 F15 a0) (0 : Int) fun x16 =>
  some true))
theorem s3 (F13 : Dim → ByteArray → (Option (Int × Err))) (F14 : (List Dim) → (Option (Int × Int × Err))) (F15 : Dim → (Option (Int × Err))) (a0 : (List Dim)) : tf3.run [⟨13, [(.st .dim), .str], (.tp [.int, .err]), fun x => F13 x.1 x.2, false⟩,
  ⟨14, [(.st .outl)], (.tp [.int, .int, .err]), fun x => F14 x, false⟩,
  ⟨15, [(.st .dim)], (.tp [.int, .err]), fun x => F15 x, false⟩] [(.st .outl)] .bool a0 = S3 F13 F14 F15 a0 := by kernel_rfl
noncomputable def P3 (a0 : (List Dim)) : Option Bool := S3 P13 P14 P15 a0
noncomputable def k3 : CSpec := ⟨3, [(.st .outl)], .bool, fun x => P3 x, false⟩
theorem r3 {S : Seat} (h : Ok1 S 3 tf3) (h13 : Rt S k13) (h14 : Rt S k14) (h15 : Rt S k15) : Rt S k3 := fun x y hy =>
  Ok1.sound h (C := [k13, k14, k15]) (CSound.cons h13 (CSound.cons h14 (CSound.cons h15 CSound.nil))) rfl rfl rfl ((s3 P13 P14 P15 x).trans hy)

end Ab
