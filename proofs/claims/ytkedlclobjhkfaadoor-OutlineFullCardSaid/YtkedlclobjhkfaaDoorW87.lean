/-
  Functions of the program as typed code, what they come to, and their contracts: written by program (mk.py).
-/
import Derived.Test.YtkedlclobjhkfaaDoorTL
import Derived.KernelRfl
import Derived.Test.YtkedlclobjhkfaaDoorMF
import Derived.Test.YtkedlclobjhkfaaDoorMO
import Derived.Test.YtkedlclobjhkfaaDoorMP
import Derived.Test.YtkedlclobjhkfaaDoorMS
namespace Ab
open Go
set_option linter.unusedVariables false
set_option maxRecDepth 100000

/- tallyhall/tallylaw4.OutlineFull -/
def tc87 : TCode :=
  .seq (.region [
  ⟨some 4, .mov (.c (.bool false)), none, []⟩] [] false)
  (.seq (.seq (.regionJ ⟨[.slot 26 .bool], [13, 14, 15, 16, 17, 18, 19, 20, 21, 22, 23, 24, 25], [], []⟩ [
  ⟨some 13, .mov (.t 0), none, []⟩,
  ⟨some 14, .bin .int .lss (.t 13) (.c (.int .i64 1)), none, []⟩,
  ⟨some 15, .mov (.t 14), none, []⟩,
  ⟨some 16, .mov (.t 0), (some (15, false)), []⟩,
  ⟨some 17, .bin .int .gtr (.t 16) (.c (.int .i64 5)), (some (15, false)), []⟩,
  ⟨some 18, .pick (.t 15) (.c (.bool true)) (.t 17), none, []⟩,
  ⟨some 19, .mov (.t 18), none, []⟩,
  ⟨some 20, .mov (.t 1), (some (19, false)), []⟩,
  ⟨some 21, .bin .int .lss (.t 20) (.c (.int .i64 1)), (some (19, false)), []⟩,
  ⟨some 22, .pick (.t 19) (.c (.bool true)) (.t 21), none, []⟩,
  ⟨some 23, .mov (.t 22), none, []⟩,
  ⟨some 24, .mov (.t 1), (some (23, false)), []⟩,
  ⟨some 25, .bin .int .gtr (.t 24) (.c (.int .i64 13)), (some (23, false)), []⟩,
  ⟨some 26, .pick (.t 23) (.c (.bool true)) (.t 25), none, []⟩] [] false)
  (.cond (.t 26)
    (.seq (.region [
  ⟨some 4, .mov (.c (.bool true)), none, []⟩] [] false)
    (.ret))
    (.skip)))
  (.seq (.region [
  ⟨some 5, .alloc [.slice none 0 0], none, []⟩] [] false)
  (.seq (.region [
  ⟨some 6, .mov (.c (.int .i64 1)), none, []⟩] [] false)
  (.seq (.seq (.region [
  ⟨some 7, .mov (.c (.int .i64 0)), none, []⟩] [] false)
  (.loop ⟨[.slot 6 .int, .slot 7 .int, .var 5 [.row 40 .dim]], [27, 28, 29, 30, 31, 32, 33, 34, 35, 36, 37, 38, 39, 40, 41, 42, 43, 44], [39], []⟩ 0 (.seq (.seq (.region [
  ⟨some 27, .mov (.t 7), none, []⟩,
  ⟨some 28, .mov (.t 0), none, []⟩,
  ⟨some 29, .bin .int .lss (.t 27) (.t 28), none, []⟩] [] false)
    (.cond (.t 29)
      (.skip)
      (.exit 0)))
    (.seq (.block 1 (.seq (.region [
  ⟨some 32, .fa 0 (.t 5), none, []⟩,
  ⟨some 33, .load none (.t 32), none, [0]⟩,
  ⟨some 34, .mov (.t 7), none, []⟩,
  ⟨some 35, .call false [] 68 [(.t 34)], none, [2]⟩,
  ⟨some 36, .mov (.t 1), none, []⟩,
  ⟨some 37, .bin .int .sub (.t 36) (.c (.int .i64 1)), none, [4]⟩,
  ⟨some 38, .call true [] 50 [(.t 35), (.t 37)], none, [3, 5, 3]⟩,
  ⟨some 39, .bslice false 3 [.string ⟨#[]⟩, .int .i64 0, .slice none 0 0] 1 [(0, (.t 38))], none, [6]⟩,
  ⟨some 40, .app 3 (.t 33) (.t 39), none, [1, 7, 6]⟩,
  ⟨some 41, .fa 0 (.t 5), none, [0, 1, 2, 3, 4, 5, 6, 7, 8]⟩,
  ⟨none, .store 1 (.t 41) (.t 40), none, [9, 8, 8, 0, 1, 2, 3, 4, 5, 6, 7, 8]⟩] [.int, .int, .int, .int, .int, .int, .int, .dim, .dim] true)
      (.region [
  ⟨some 42, .mov (.t 6), none, []⟩,
  ⟨some 43, .mov (.t 1), none, []⟩,
  ⟨some 44, .bin .int .mul (.t 42) (.t 43), none, []⟩,
  ⟨some 6, .mov (.t 44), none, []⟩] [] false)))
    (.region [
  ⟨some 30, .mov (.t 7), none, []⟩,
  ⟨some 31, .bin .int .add (.t 30) (.c (.int .i64 1)), none, []⟩,
  ⟨some 7, .mov (.t 31), none, []⟩] [] false)))))
  (.seq (.region [
  ⟨some 46, .load (some 1) (.t 5), none, []⟩,
  ⟨some 47, .call false [] 14 [(.t 46)], none, []⟩,
  ⟨some 45, .mov (.t 47), none, []⟩,
  ⟨some 48, .ext (.t 45) 0, none, []⟩,
  ⟨some 49, .ext (.t 45) 1, none, []⟩,
  ⟨some 50, .ext (.t 45) 2, none, []⟩,
  ⟨some 8, .mov (.t 48), none, []⟩,
  ⟨some 9, .mov (.t 49), none, []⟩,
  ⟨some 10, .mov (.t 50), none, []⟩] [] false)
  (.seq (.seq (.regionJ ⟨[.slot 60 .bool], [51, 52, 53, 54, 55, 56, 57, 58, 59], [], []⟩ [
  ⟨some 51, .mov (.t 0), none, []⟩,
  ⟨some 52, .bin .int .gtr (.t 51) (.c (.int .i64 4)), none, []⟩,
  ⟨some 53, .mov (.t 52), none, []⟩,
  ⟨some 54, .mov (.t 1), (some (53, false)), []⟩,
  ⟨some 55, .bin .int .gtr (.t 54) (.c (.int .i64 12)), (some (53, false)), []⟩,
  ⟨some 56, .pick (.t 53) (.c (.bool true)) (.t 55), none, []⟩,
  ⟨some 57, .mov (.t 56), none, []⟩,
  ⟨some 58, .mov (.t 6), (some (57, false)), []⟩,
  ⟨some 59, .bin .int .gtr (.t 58) (.c (.int .i64 3000)), (some (57, false)), []⟩,
  ⟨some 60, .pick (.t 57) (.c (.bool true)) (.t 59), none, []⟩] [] false)
  (.cond (.t 60)
    (.seq (.region [
  ⟨some 61, .mov (.t 10), none, []⟩,
  ⟨some 62, .call false [] 92 [(.t 61), (.c (.int .i64 4))], none, []⟩,
  ⟨some 4, .mov (.t 62), none, []⟩] [] false)
    (.ret))
    (.skip)))
  (.seq (.region [
  ⟨some 64, .load (some 1) (.t 5), none, []⟩,
  ⟨some 65, .call false [] 93 [(.t 64)], none, []⟩,
  ⟨some 63, .mov (.t 65), none, []⟩,
  ⟨some 66, .ext (.t 63) 0, none, []⟩,
  ⟨some 67, .ext (.t 63) 1, none, []⟩,
  ⟨some 11, .mov (.t 66), none, []⟩,
  ⟨some 12, .mov (.t 67), none, []⟩] [] false)
  (.seq (.regionJ ⟨[.slot 4 .bool], [68, 69, 70, 71, 72, 73, 74, 75, 76, 77, 78], [], []⟩ [
  ⟨some 68, .mov (.t 10), none, []⟩,
  ⟨some 69, .eqn false false (.t 68), none, []⟩,
  ⟨some 70, .mov (.t 69), none, []⟩,
  ⟨some 71, .mov (.t 12), (some (70, true)), []⟩,
  ⟨some 72, .eqn false false (.t 71), (some (70, true)), []⟩,
  ⟨some 73, .pick (.t 70) (.t 72) (.c (.bool false)), none, []⟩,
  ⟨some 74, .mov (.t 73), none, []⟩,
  ⟨some 75, .mov (.t 11), (some (74, true)), []⟩,
  ⟨some 76, .mov (.t 6), (some (74, true)), []⟩,
  ⟨some 77, .bin .int .eql (.t 75) (.t 76), (some (74, true)), []⟩,
  ⟨some 78, .pick (.t 74) (.t 77) (.c (.bool false)), none, []⟩,
  ⟨some 4, .mov (.t 78), none, []⟩] [] false)
  (.ret)))))))))
def tf87 : TFunc := { np := 2, nt := 79, res := [.tmp 4], own := false, body := tc87 }
noncomputable def S87_L1 (F50 : ByteArray → Int → (Option Dim)) (F68 : Int → (Option ByteArray)) (a0 : Int) (a1 : Int) (x2 : (Int × Int × (List Dim))) : Option (LR (Int × Int × (List Dim)) Bool) :=
  br (decide (x2.2.1 < a0))
  (bno (F68 x2.2.1) fun y3 =>
  bno (F50 y3 (wi (a1 - (1 : Int)))) fun y4 =>
  ck (decide (List.length x2.2.2 + List.length ([y4] : List Dim) ≤ roomA)) <|
  nxO (some (wi (x2.1 * a1), wi (x2.2.1 + (1 : Int)), x2.2.2 ++ ([y4] : List Dim))))
  (dnO (some (x2.1, x2.2.1, x2.2.2)))
noncomputable def S87 (F14 : (List Dim) → (Option (Int × Int × Err))) (F50 : ByteArray → Int → (Option Dim)) (F68 : Int → (Option ByteArray)) (F92 : Err → Int → (Option Bool)) (F93 : (List Dim) → (Option (Int × Err))) (a0 : Int) (a1 : Int) : Option Bool :=
  jn (σ := Bool) (α := Bool) (br (decide (a0 < (1 : Int)))
  (inlO (some true))
  (br (decide ((5 : Int) < a0))
  (inlO (some true))
  (br (decide (a1 < (1 : Int)))
  (inlO (some true))
  (inlO (some (decide ((13 : Int) < a1))))))) fun x1 =>
  br x1
  (some true)
  (lp (S87_L1 F50 F68 a0 a1) ((1 : Int), (0 : Int), ([] : List Dim)) fun x5 =>
  bno (F14 x5.2.2) fun y6 =>
  jn (σ := Bool) (α := Bool) (br (decide ((4 : Int) < a0))
  (inlO (some true))
  (br (decide ((12 : Int) < a1))
  (inlO (some true))
  (inlO (some (decide ((3000 : Int) < x5.1)))))) fun x7 =>
  br x7
  (bno (F92 y6.2.2 (4 : Int)) fun y8 =>
  some y8)
  (bno (F93 x5.2.2) fun y9 =>
  jn (σ := Bool) (α := Bool) (br (Err.isNil y6.2.2)
  (br (Err.isNil y9.2)
  (inlO (some (decide (y9.1 = x5.1))))
  (inlO (some false)))
  (inlO (some false))) fun x10 =>
  some x10))
theorem s87 (F14 : (List Dim) → (Option (Int × Int × Err))) (F50 : ByteArray → Int → (Option Dim)) (F68 : Int → (Option ByteArray)) (F92 : Err → Int → (Option Bool)) (F93 : (List Dim) → (Option (Int × Err))) (a0 : Int) (a1 : Int) : tf87.run [⟨14, [(.st .outl)], (.tp [.int, .int, .err]), fun x => F14 x, false⟩,
  ⟨50, [.str, .int], (.st .dim), fun x => F50 x.1 x.2, false⟩,
  ⟨68, [.int], .str, fun x => F68 x, false⟩,
  ⟨92, [.err, .int], .bool, fun x => F92 x.1 x.2, false⟩,
  ⟨93, [(.st .outl)], (.tp [.int, .err]), fun x => F93 x, false⟩] [.int, .int] .bool (a0, a1) = S87 F14 F50 F68 F92 F93 a0 a1 := by kernel_rfl
noncomputable def P87 (a0 : Int) (a1 : Int) : Option Bool := S87 P14 P50 P68 P92 P93 a0 a1
noncomputable def k87 : CSpec := ⟨87, [.int, .int], .bool, fun x => P87 x.1 x.2, false⟩
theorem r87 {S : Seat} (h : Ok1 S 87 tf87) (h14 : Rt S k14) (h50 : Rt S k50) (h68 : Rt S k68) (h92 : Rt S k92) (h93 : Rt S k93) : Rt S k87 := fun x y hy =>
  Ok1.sound h (C := [k14, k50, k68, k92, k93]) (CSound.cons h14 (CSound.cons h50 (CSound.cons h68 (CSound.cons h92 (CSound.cons h93 CSound.nil))))) rfl rfl rfl ((s87 P14 P50 P68 P92 P93 x.1 x.2).trans hy)

end Ab
