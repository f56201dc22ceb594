/-
  Functions of the program as typed code, what they come to, and their contracts: written by program (mk.py).
-/
import Derived.Test.YtkedlclobjhkfaaDoorTL
import Derived.KernelRfl
import Derived.Test.YtkedlclobjhkfaaDoorMF
import Derived.Test.YtkedlclobjhkfaaDoorMS
import Derived.Test.YtkedlclobjhkfaaDoorMT
namespace Ab
open Go
set_option linter.unusedVariables false
set_option maxRecDepth 100000

/- tallyhall/tallylaw4.TreeLine -/
def tc90 : TCode :=
  .seq (.region [
  ⟨some 6, .mov (.c (.bool false)), none, []⟩] [] false)
  (.seq (.seq (.regionJ ⟨[.slot 32 .bool], [19, 20, 21, 22, 23, 24, 25, 26, 27, 28, 29, 30, 31], [], []⟩ [
  ⟨some 19, .mov (.t 0), none, []⟩,
  ⟨some 20, .bin .int .lss (.t 19) (.c (.int .i64 1)), none, []⟩,
  ⟨some 21, .mov (.t 20), none, []⟩,
  ⟨some 22, .mov (.t 0), (some (21, false)), []⟩,
  ⟨some 23, .bin .int .gtr (.t 22) (.c (.int .i64 12)), (some (21, false)), []⟩,
  ⟨some 24, .pick (.t 21) (.c (.bool true)) (.t 23), none, []⟩,
  ⟨some 25, .mov (.t 24), none, []⟩,
  ⟨some 26, .mov (.t 2), (some (25, false)), []⟩,
  ⟨some 27, .bin .int .lss (.t 26) (.c (.int .i64 (-1))), (some (25, false)), []⟩,
  ⟨some 28, .pick (.t 25) (.c (.bool true)) (.t 27), none, []⟩,
  ⟨some 29, .mov (.t 28), none, []⟩,
  ⟨some 30, .mov (.t 2), (some (29, false)), []⟩,
  ⟨some 31, .bin .int .gtr (.t 30) (.c (.int .i64 1)), (some (29, false)), []⟩,
  ⟨some 32, .pick (.t 29) (.c (.bool true)) (.t 31), none, []⟩] [] false)
  (.cond (.t 32)
    (.seq (.region [
  ⟨some 6, .mov (.c (.bool true)), none, []⟩] [] false)
    (.ret))
    (.skip)))
  (.seq (.region [
  ⟨some 33, .build [.string ⟨#[]⟩, .int .i64 0, .slice none 0 0] [(0, 1, (.c (.string ⟨#[97]⟩)))], none, []⟩,
  ⟨some 7, .alloc [.string ⟨#[]⟩, .int .i64 0, .slice none 0 0], none, []⟩,
  ⟨none, .store 3 (.t 7) (.t 33), none, []⟩] [] false)
  (.seq (.seq (.region [
  ⟨some 8, .mov (.c (.int .i64 0)), none, []⟩] [] false)
  (.loop ⟨[.slot 8 .int, .var 7 [.sh .str, .sh .int, .row 48 .member]], [34, 35, 36, 37, 38, 39, 40, 41, 42, 43, 44, 45, 46, 47, 48, 49], [47], []⟩ 0 (.seq (.seq (.region [
  ⟨some 34, .mov (.t 8), none, []⟩,
  ⟨some 35, .mov (.t 0), none, []⟩,
  ⟨some 36, .bin .int .lss (.t 34) (.t 35), none, []⟩] [] false)
    (.cond (.t 36)
      (.skip)
      (.exit 0)))
    (.seq (.block 1 (.region [
  ⟨some 39, .fa 2 (.t 7), none, []⟩,
  ⟨some 40, .load none (.t 39), none, [0]⟩,
  ⟨some 41, .mov (.t 8), none, []⟩,
  ⟨some 42, .call false [] 68 [(.t 41)], none, [2]⟩,
  ⟨some 43, .mov (.t 8), none, []⟩,
  ⟨some 44, .bin .int .sub (.t 43) (.c (.int .i64 1)), none, [4]⟩,
  ⟨some 45, .mov (.t 2), none, []⟩,
  ⟨some 46, .build [.string ⟨#[]⟩, .int .i64 0, .int .i64 0, .string ⟨#[]⟩] [(0, 1, (.t 42)), (1, 1, (.t 44)), (2, 1, (.t 45))], none, [3, 5, 6]⟩,
  ⟨some 47, .bslice false 4 [.string ⟨#[]⟩, .int .i64 0, .int .i64 0, .string ⟨#[]⟩] 1 [(0, (.t 46))], none, [7]⟩,
  ⟨some 48, .app 4 (.t 40) (.t 47), none, [1, 8, 3]⟩,
  ⟨some 49, .fa 2 (.t 7), none, [0, 1, 2, 3, 4, 5, 6, 7, 8, 9]⟩,
  ⟨none, .store 1 (.t 49) (.t 48), none, [10, 9, 9, 0, 1, 2, 3, 4, 5, 6, 7, 8, 9]⟩] [.int, .int, .int, .int, .int, .int, .int, .int, .member, .member] true))
    (.region [
  ⟨some 37, .mov (.t 8), none, []⟩,
  ⟨some 38, .bin .int .add (.t 37) (.c (.int .i64 1)), none, []⟩,
  ⟨some 8, .mov (.t 38), none, []⟩] [] false)))))
  (.seq (.region [
  ⟨some 51, .load (some 3) (.t 7), none, []⟩,
  ⟨some 52, .mov (.t 1), none, []⟩,
  ⟨some 53, .call true [] 19 [(.t 51), (.t 52)], none, []⟩,
  ⟨some 50, .mov (.t 53), none, []⟩,
  ⟨some 54, .ext (.t 50) 0, none, []⟩,
  ⟨some 55, .ext (.t 50) 1, none, []⟩,
  ⟨some 9, .mov (.t 54), none, []⟩,
  ⟨some 10, .mov (.t 55), none, []⟩] [] false)
  (.seq (.region [
  ⟨some 57, .load (some 3) (.t 7), none, []⟩,
  ⟨some 58, .mov (.t 1), none, []⟩,
  ⟨some 59, .call true [] 17 [(.t 57), (.t 58)], none, []⟩,
  ⟨some 56, .mov (.t 59), none, []⟩,
  ⟨some 60, .ext (.t 56) 0, none, []⟩,
  ⟨some 61, .ext (.t 56) 1, none, []⟩,
  ⟨some 11, .mov (.t 60), none, []⟩,
  ⟨some 12, .mov (.t 61), none, []⟩] [] false)
  (.seq (.region [
  ⟨some 63, .load (some 3) (.t 7), none, []⟩,
  ⟨some 64, .mov (.t 1), none, []⟩,
  ⟨some 65, .mov (.t 0), none, []⟩,
  ⟨some 66, .bin .int .sub (.t 65) (.c (.int .i64 1)), none, []⟩,
  ⟨some 67, .call false [] 16 [(.t 63), (.t 64), (.t 66)], none, []⟩,
  ⟨some 62, .mov (.t 67), none, []⟩,
  ⟨some 68, .ext (.t 62) 0, none, []⟩,
  ⟨some 69, .ext (.t 62) 1, none, []⟩,
  ⟨some 13, .mov (.t 68), none, []⟩,
  ⟨some 14, .mov (.t 69), none, []⟩] [] false)
  (.seq (.region [
  ⟨some 71, .load (some 3) (.t 7), none, []⟩,
  ⟨some 72, .call false [] 99 [(.t 71)], none, []⟩,
  ⟨some 70, .mov (.t 72), none, []⟩,
  ⟨some 73, .ext (.t 70) 0, none, []⟩,
  ⟨some 74, .ext (.t 70) 1, none, []⟩,
  ⟨some 15, .mov (.t 73), none, []⟩,
  ⟨some 16, .mov (.t 74), none, []⟩] [] false)
  (.seq (.seq (.regionJ ⟨[.slot 81 .bool], [75, 76, 77, 78, 79, 80], [], []⟩ [
  ⟨some 75, .mov (.t 1), none, []⟩,
  ⟨some 76, .bin .int .lss (.t 75) (.c (.int .i64 0)), none, []⟩,
  ⟨some 77, .mov (.t 76), none, []⟩,
  ⟨some 78, .mov (.t 1), (some (77, false)), []⟩,
  ⟨some 79, .mov (.t 0), (some (77, false)), []⟩,
  ⟨some 80, .bin .int .geq (.t 78) (.t 79), (some (77, false)), []⟩,
  ⟨some 81, .pick (.t 77) (.c (.bool true)) (.t 80), none, []⟩] [] false)
  (.cond (.t 81)
    (.seq (.region [
  ⟨some 82, .mov (.t 10), none, []⟩,
  ⟨some 83, .call false [] 92 [(.t 82), (.c (.int .i64 1))], none, []⟩,
  ⟨some 6, .mov (.t 83), none, []⟩] [] false)
    (.ret))
    (.skip)))
  (.seq (.region [
  ⟨some 17, .mov (.c (.int .i64 1)), none, []⟩] [] false)
  (.seq (.seq (.region [
  ⟨some 84, .mov (.t 1), none, []⟩,
  ⟨some 18, .mov (.t 84), none, []⟩] [] false)
  (.loop ⟨[.slot 17 .int, .slot 18 .int], [85, 86, 87, 88, 89, 90, 91, 92, 93], [], []⟩ 2 (.seq (.seq (.region [
  ⟨some 85, .mov (.t 18), none, []⟩,
  ⟨some 86, .mov (.t 0), none, []⟩,
  ⟨some 87, .bin .int .sub (.t 86) (.c (.int .i64 1)), none, []⟩,
  ⟨some 88, .bin .int .lss (.t 85) (.t 87), none, []⟩] [] false)
    (.cond (.t 88)
      (.skip)
      (.exit 2)))
    (.seq (.block 3 (.region [
  ⟨some 91, .mov (.t 17), none, []⟩,
  ⟨some 92, .mov (.t 2), none, []⟩,
  ⟨some 93, .bin .int .mul (.t 91) (.t 92), none, []⟩,
  ⟨some 17, .mov (.t 93), none, []⟩] [] false))
    (.region [
  ⟨some 89, .mov (.t 18), none, []⟩,
  ⟨some 90, .bin .int .add (.t 89) (.c (.int .i64 1)), none, []⟩,
  ⟨some 18, .mov (.t 90), none, []⟩] [] false)))))
  (.seq (.regionJ ⟨[.slot 6 .bool], [94, 95, 96, 97, 98, 99, 100, 101, 102, 103, 104, 105, 106, 107, 108, 109, 110, 111, 112, 113, 114, 115, 116, 117, 118, 119, 120, 121, 122, 123, 124, 125, 126, 127, 128, 129, 130, 131, 132, 133, 134, 135, 136, 137], [], []⟩ [
  ⟨some 94, .mov (.t 10), none, []⟩,
  ⟨some 95, .eqn false false (.t 94), none, []⟩,
  ⟨some 96, .mov (.t 95), none, []⟩,
  ⟨some 97, .mov (.t 12), (some (96, true)), []⟩,
  ⟨some 98, .eqn false false (.t 97), (some (96, true)), []⟩,
  ⟨some 99, .pick (.t 96) (.t 98) (.c (.bool false)), none, []⟩,
  ⟨some 100, .mov (.t 99), none, []⟩,
  ⟨some 101, .mov (.t 14), (some (100, true)), []⟩,
  ⟨some 102, .eqn false false (.t 101), (some (100, true)), []⟩,
  ⟨some 103, .pick (.t 100) (.t 102) (.c (.bool false)), none, []⟩,
  ⟨some 104, .mov (.t 103), none, []⟩,
  ⟨some 105, .mov (.t 16), (some (104, true)), []⟩,
  ⟨some 106, .eqn false false (.t 105), (some (104, true)), []⟩,
  ⟨some 107, .pick (.t 104) (.t 106) (.c (.bool false)), none, []⟩,
  ⟨some 108, .mov (.t 107), none, []⟩,
  ⟨some 109, .mov (.t 9), (some (108, true)), []⟩,
  ⟨some 110, .len false (.t 109), (some (108, true)), []⟩,
  ⟨some 111, .mov (.t 1), (some (108, true)), []⟩,
  ⟨some 112, .bin .int .add (.t 111) (.c (.int .i64 1)), (some (108, true)), []⟩,
  ⟨some 113, .bin .int .eql (.t 110) (.t 112), (some (108, true)), []⟩,
  ⟨some 114, .pick (.t 108) (.t 113) (.c (.bool false)), none, []⟩,
  ⟨some 115, .mov (.t 114), none, []⟩,
  ⟨some 116, .mov (.t 11), (some (115, true)), []⟩,
  ⟨some 117, .len false (.t 116), (some (115, true)), []⟩,
  ⟨some 118, .bin .int .eql (.t 117) (.c (.int .i64 1)), (some (115, true)), []⟩,
  ⟨some 119, .pick (.t 115) (.t 118) (.c (.bool false)), none, []⟩,
  ⟨some 120, .mov (.t 119), none, []⟩,
  ⟨some 121, .mov (.t 11), (some (120, true)), []⟩,
  ⟨some 122, .ia 1 (.t 121) (.c (.int .i64 0)), (some (120, true)), []⟩,
  ⟨some 123, .load none (.t 122), (some (120, true)), []⟩,
  ⟨some 124, .mov (.t 0), (some (120, true)), []⟩,
  ⟨some 125, .bin .int .sub (.t 124) (.c (.int .i64 1)), (some (120, true)), []⟩,
  ⟨some 126, .bin .int .eql (.t 123) (.t 125), (some (120, true)), []⟩,
  ⟨some 127, .pick (.t 120) (.t 126) (.c (.bool false)), none, []⟩,
  ⟨some 128, .mov (.t 127), none, []⟩,
  ⟨some 129, .mov (.t 13), (some (128, true)), []⟩,
  ⟨some 130, .mov (.t 17), (some (128, true)), []⟩,
  ⟨some 131, .bin .int .eql (.t 129) (.t 130), (some (128, true)), []⟩,
  ⟨some 132, .pick (.t 128) (.t 131) (.c (.bool false)), none, []⟩,
  ⟨some 133, .mov (.t 132), none, []⟩,
  ⟨some 134, .mov (.t 15), (some (133, true)), []⟩,
  ⟨some 135, .mov (.t 0), (some (133, true)), []⟩,
  ⟨some 136, .bin .int .eql (.t 134) (.t 135), (some (133, true)), []⟩,
  ⟨some 137, .pick (.t 133) (.t 136) (.c (.bool false)), none, []⟩,
  ⟨some 6, .mov (.t 137), none, []⟩] [] false)
  (.ret))))))))))))
def tf90 : TFunc := { np := 3, nt := 138, res := [.tmp 6], own := false, body := tc90 }
noncomputable def S90_L1 (F68 : Int → (Option ByteArray)) (a0 : Int) (a2 : Int) (x2 : (Int × (ByteArray × Int × (List Member)))) : Option (LR (Int × (ByteArray × Int × (List Member))) Bool) :=
  br (decide (x2.1 < a0))
  (bno (F68 x2.1) fun y3 =>
  ck (decide (List.length x2.2.2.2 + List.length ([Member.mk y3 (wi (x2.1 - (1 : Int))) a2 (⟨#[]⟩ : ByteArray)] : List Member) ≤ roomA)) <|
  nxO (some (wi (x2.1 + (1 : Int)), (x2.2.1, x2.2.2.1, x2.2.2.2 ++ ([Member.mk y3 (wi (x2.1 - (1 : Int))) a2 (⟨#[]⟩ : ByteArray)] : List Member)))))
  (dnO (some (x2.1, (x2.2.1, x2.2.2.1, x2.2.2.2))))
noncomputable def S90_L2 (a0 : Int) (a2 : Int) (x11 : (Int × Int)) : Option (LR (Int × Int) Bool) :=
  br (decide (x11.2 < (wi (a0 - (1 : Int)))))
  (nxO (some (wi (x11.1 * a2), wi (x11.2 + (1 : Int)))))
  (dnO (some (x11.1, x11.2)))
noncomputable def S90 (F16 : Dim → Int → Int → (Option (Int × Err))) (F17 : Dim → Int → (Option ((List Int) × Err))) (F19 : Dim → Int → (Option ((List Int) × Err))) (F68 : Int → (Option ByteArray)) (F92 : Err → Int → (Option Bool)) (F99 : Dim → (Option (Int × Err))) (a0 : Int) (a1 : Int) (a2 : Int) : Option Bool :=
  jn (σ := Bool) (α := Bool) (br (decide (a0 < (1 : Int)))
  (inlO (some true))
  (br (decide ((12 : Int) < a0))
  (inlO (some true))
  (br (decide (a2 < (-1 : Int)))
  (inlO (some true))
  (inlO (some (decide ((1 : Int) < a2))))))) fun x1 =>
  br x1
  (some true)
  (lp (S90_L1 F68 a0 a2) ((0 : Int), ((⟨#[97]⟩ : ByteArray), (0 : Int), ([] : List Member))) fun x4 =>
  bno (F19 (Dim.mk x4.2.1 x4.2.2.1 x4.2.2.2) a1) fun y5 =>
  bno (F17 (Dim.mk x4.2.1 x4.2.2.1 x4.2.2.2) a1) fun y6 =>
  bno (F16 (Dim.mk x4.2.1 x4.2.2.1 x4.2.2.2) a1 (wi (a0 - (1 : Int)))) fun y7 =>
  bno (F99 (Dim.mk x4.2.1 x4.2.2.1 x4.2.2.2)) fun y8 =>
  jn (σ := Bool) (α := Bool) (br (decide (a1 < (0 : Int)))
  (inlO (some true))
  (inlO (some (decide (a0 ≤ a1))))) fun x9 =>
  br x9
  (bno (F92 y5.2 (1 : Int)) fun y10 =>
  some y10)
  (lp (S90_L2 a0 a2) ((1 : Int), a1) fun x12 =>
  jn (σ := Bool) (α := Bool) (br (Err.isNil y5.2)
  (br (Err.isNil y6.2)
  (br (Err.isNil y7.2)
  (br (Err.isNil y8.2)
  (br (decide (((List.length y5.1 : Nat) : Int) = (wi (a1 + (1 : Int)))))
  (br (decide (((List.length y6.1 : Nat) : Int) = (1 : Int)))
  (bno (lookI y6.1 (0 : Int)) fun y13 =>
  br (decide (y13 = (wi (a0 - (1 : Int)))))
  (br (decide (y7.1 = x12.1))
  (inlO (some (decide (y8.1 = a0))))
  (inlO (some false)))
  (inlO (some false)))
  (inlO (some false)))
  (inlO (some false)))
  (inlO (some false)))
  (inlO (some false)))
  (inlO (some false)))
  (inlO (some false))) fun x14 =>
  some x14))
theorem s90 (F16 : Dim → Int → Int → (Option (Int × Err))) (F17 : Dim → Int → (Option ((List Int) × Err))) (F19 : Dim → Int → (Option ((List Int) × Err))) (F68 : Int → (Option ByteArray)) (F92 : Err → Int → (Option Bool)) (F99 : Dim → (Option (Int × Err))) (a0 : Int) (a1 : Int) (a2 : Int) : tf90.run [⟨16, [(.st .dim), .int, .int], (.tp [.int, .err]), fun x => F16 x.1 x.2.1 x.2.2, false⟩,
  ⟨17, [(.st .dim), .int], (.tp [(.sl .int), .err]), fun x => F17 x.1 x.2, false⟩,
  ⟨19, [(.st .dim), .int], (.tp [(.sl .int), .err]), fun x => F19 x.1 x.2, false⟩,
  ⟨68, [.int], .str, fun x => F68 x, false⟩,
  ⟨92, [.err, .int], .bool, fun x => F92 x.1 x.2, false⟩,
  ⟨99, [(.st .dim)], (.tp [.int, .err]), fun x => F99 x, false⟩] [.int, .int, .int] .bool (a0, a1, a2) = S90 F16 F17 F19 F68 F92 F99 a0 a1 a2 := by kernel_rfl
noncomputable def P90 (a0 : Int) (a1 : Int) (a2 : Int) : Option Bool := S90 P16 P17 P19 P68 P92 P99 a0 a1 a2
noncomputable def k90 : CSpec := ⟨90, [.int, .int, .int], .bool, fun x => P90 x.1 x.2.1 x.2.2, false⟩
theorem r90 {S : Seat} (h : Ok1 S 90 tf90) (h16 : Rt S k16) (h17 : Rt S k17) (h19 : Rt S k19) (h68 : Rt S k68) (h92 : Rt S k92) (h99 : Rt S k99) : Rt S k90 := fun x y hy =>
  Ok1.sound h (C := [k16, k17, k19, k68, k92, k99]) (CSound.cons h16 (CSound.cons h17 (CSound.cons h19 (CSound.cons h68 (CSound.cons h92 (CSound.cons h99 CSound.nil)))))) rfl rfl rfl ((s90 P16 P17 P19 P68 P92 P99 x.1 x.2.1 x.2.2).trans hy)

end Ab
