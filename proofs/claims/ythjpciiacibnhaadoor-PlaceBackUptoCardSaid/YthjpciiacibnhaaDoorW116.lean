/-
  Functions of the program as typed code, what they come to, and their contracts: written by program (mk.py).
-/
import Derived.Test.YthjpciiacibnhaaDoorB2
import Derived.KernelRfl
import Derived.Test.YthjpciiacibnhaaDoorMP
import Derived.Test.YthjpciiacibnhaaDoorMP2
import Derived.Test.YthjpciiacibnhaaDoorMPr
import Derived.Test.YthjpciiacibnhaaDoorMS
namespace Ab
open Go
set_option linter.unusedVariables false
set_option maxRecDepth 100000

/- tallyhall/tallylaw1.PlaceBack -/
def tc116 : TCode :=
  .seq (.region [
  ⟨some 4, .box (.t 0), none, []⟩,
  ⟨some 8, .mov (.c (.bool false)), none, []⟩] [] false)
  (.seq (.region [
  ⟨some 27, .build [.string ⟨#[]⟩, .int .i64 0, .int .i64 0, .string ⟨#[]⟩] [(0, 1, (.c (.string ⟨#[98]⟩))), (1, 1, (.c (.int .i64 (-1))))], none, []⟩,
  ⟨some 28, .build [.string ⟨#[]⟩, .int .i64 0, .int .i64 0, .string ⟨#[]⟩] [(0, 1, (.c (.string ⟨#[99]⟩))), (1, 1, (.c (.int .i64 (-1))))], none, []⟩,
  ⟨some 29, .bslice false 4 [.string ⟨#[]⟩, .int .i64 0, .int .i64 0, .string ⟨#[]⟩] 2 [(0, (.t 27)), (1, (.t 28))], none, []⟩,
  ⟨some 30, .build [.string ⟨#[]⟩, .int .i64 0, .slice none 0 0] [(0, 1, (.c (.string ⟨#[97]⟩))), (2, 1, (.t 29))], none, []⟩,
  ⟨some 31, .bslice true 3 [.string ⟨#[]⟩, .int .i64 0, .slice none 0 0] 1 [(0, (.t 30))], none, []⟩,
  ⟨some 32, .build [.slice none 0 0] [(0, 1, (.t 31))], none, []⟩,
  ⟨some 9, .alloc [.slice none 0 0], none, []⟩,
  ⟨none, .store 1 (.t 9) (.t 32), none, []⟩] [.int, .int, .member, .int, .dim] false)
  (.seq (.region [
  ⟨some 34, .load (some 1) (.t 9), none, []⟩,
  ⟨some 35, .call true [] 131 [(.t 34), (.c (.string ⟨#[99]⟩))], none, []⟩,
  ⟨some 33, .mov (.t 35), none, []⟩,
  ⟨some 36, .ext (.t 33) 0, none, []⟩,
  ⟨some 37, .ext (.t 33) 1, none, []⟩,
  ⟨some 10, .mov (.t 36), none, []⟩,
  ⟨some 11, .mov (.t 37), none, []⟩] [] false)
  (.seq (.seq (.regionJ ⟨[.slot 50 .bool], [38, 39, 40, 41, 42, 43, 44, 45, 46, 47, 48, 49], [], []⟩ [
  ⟨some 38, .mov (.t 11), none, []⟩,
  ⟨some 39, .eqn false true (.t 38), none, []⟩,
  ⟨some 40, .mov (.t 39), none, []⟩,
  ⟨some 41, .mov (.t 10), (some (40, false)), []⟩,
  ⟨some 42, .len false (.t 41), (some (40, false)), []⟩,
  ⟨some 43, .bin .int .neq (.t 42) (.c (.int .i64 1)), (some (40, false)), []⟩,
  ⟨some 44, .pick (.t 40) (.c (.bool true)) (.t 43), none, []⟩,
  ⟨some 45, .mov (.t 44), none, []⟩,
  ⟨some 46, .mov (.t 10), (some (45, false)), []⟩,
  ⟨some 47, .ia 1 (.t 46) (.c (.int .i64 0)), (some (45, false)), []⟩,
  ⟨some 48, .load none (.t 47), (some (45, false)), []⟩,
  ⟨some 49, .bin .int .neq (.t 48) (.c (.int .i64 1)), (some (45, false)), []⟩,
  ⟨some 50, .pick (.t 45) (.c (.bool true)) (.t 49), none, []⟩] [] false)
  (.cond (.t 50)
    (.seq (.region [
  ⟨some 8, .mov (.c (.bool false)), none, []⟩] [] false)
    (.ret))
    (.skip)))
  (.seq (.region [
  ⟨some 52, .load (some 1) (.t 4), none, []⟩,
  ⟨some 53, .mov (.t 2), none, []⟩,
  ⟨some 54, .call true [] 98 [(.t 52), (.t 53)], none, []⟩,
  ⟨some 51, .mov (.t 54), none, []⟩,
  ⟨some 55, .ext (.t 51) 0, none, []⟩,
  ⟨some 56, .ext (.t 51) 1, none, []⟩,
  ⟨some 12, .mov (.t 55), none, []⟩,
  ⟨some 13, .mov (.t 56), none, []⟩] [] false)
  (.seq (.seq (.region [
  ⟨some 57, .mov (.t 13), none, []⟩,
  ⟨some 58, .eqn false false (.t 57), none, []⟩] [] false)
  (.condJ ⟨[], [14, 15, 59, 60, 61, 62, 63, 64, 65, 66, 67, 68, 69, 70, 71], [], []⟩ (.t 58)
    (.seq (.region [
  ⟨some 60, .load (some 1) (.t 4), none, []⟩,
  ⟨some 61, .mov (.t 12), none, []⟩,
  ⟨some 62, .call false [] 132 [(.t 60), (.t 61)], none, []⟩,
  ⟨some 59, .mov (.t 62), none, []⟩,
  ⟨some 63, .ext (.t 59) 0, none, []⟩,
  ⟨some 64, .ext (.t 59) 1, none, []⟩,
  ⟨some 14, .mov (.t 63), none, []⟩,
  ⟨some 15, .mov (.t 64), none, []⟩] [] false)
    (.seq (.regionJ ⟨[.slot 71 .bool], [65, 66, 67, 68, 69, 70], [], []⟩ [
  ⟨some 65, .mov (.t 15), none, []⟩,
  ⟨some 66, .eqn false true (.t 65), none, []⟩,
  ⟨some 67, .mov (.t 66), none, []⟩,
  ⟨some 68, .mov (.t 14), (some (67, false)), []⟩,
  ⟨some 69, .mov (.t 2), (some (67, false)), []⟩,
  ⟨some 70, .bin .int .neq (.t 68) (.t 69), (some (67, false)), []⟩,
  ⟨some 71, .pick (.t 67) (.c (.bool true)) (.t 70), none, []⟩] [] false)
    (.cond (.t 71)
      (.seq (.region [
  ⟨some 8, .mov (.c (.bool false)), none, []⟩] [] false)
      (.ret))
      (.skip))))
    (.skip)))
  (.seq (.region [
  ⟨some 73, .load (some 1) (.t 4), none, []⟩,
  ⟨some 74, .mov (.t 1), none, []⟩,
  ⟨some 75, .call false [] 132 [(.t 73), (.t 74)], none, []⟩,
  ⟨some 72, .mov (.t 75), none, []⟩,
  ⟨some 76, .ext (.t 72) 0, none, []⟩,
  ⟨some 77, .ext (.t 72) 1, none, []⟩,
  ⟨some 16, .mov (.t 76), none, []⟩,
  ⟨some 13, .mov (.t 77), none, []⟩] [] false)
  (.seq (.seq (.region [
  ⟨some 78, .mov (.t 13), none, []⟩,
  ⟨some 79, .eqn false false (.t 78), none, []⟩] [] false)
  (.condJ ⟨[], [17, 18, 19, 20, 21, 22, 23, 24, 80, 81, 82, 83, 84, 85, 86, 87, 88, 89, 90, 91, 92, 93, 94, 95, 96, 97, 98, 99, 100, 101, 102, 103, 104, 105, 106, 107, 108, 109, 110, 111, 112, 113, 114, 115, 116, 117, 118, 119, 120, 121], [], []⟩ (.t 79)
    (.seq (.region [
  ⟨some 81, .load (some 1) (.t 4), none, []⟩,
  ⟨some 82, .mov (.t 16), none, []⟩,
  ⟨some 83, .call true [] 98 [(.t 81), (.t 82)], none, []⟩,
  ⟨some 80, .mov (.t 83), none, []⟩,
  ⟨some 84, .ext (.t 80) 0, none, []⟩,
  ⟨some 85, .ext (.t 80) 1, none, []⟩,
  ⟨some 17, .mov (.t 84), none, []⟩,
  ⟨some 18, .mov (.t 85), none, []⟩] [] false)
    (.seq (.region [
  ⟨some 87, .load (some 1) (.t 4), none, []⟩,
  ⟨some 88, .mov (.t 1), none, []⟩,
  ⟨some 89, .call false [] 133 [(.t 87), (.t 88)], none, []⟩,
  ⟨some 86, .mov (.t 89), none, []⟩,
  ⟨some 90, .ext (.t 86) 0, none, []⟩,
  ⟨some 91, .ext (.t 86) 1, none, []⟩,
  ⟨some 19, .mov (.t 90), none, []⟩,
  ⟨some 20, .mov (.t 91), none, []⟩] [] false)
    (.seq (.region [
  ⟨some 93, .load (some 1) (.t 4), none, []⟩,
  ⟨some 94, .mov (.t 19), none, []⟩,
  ⟨some 95, .call true [] 131 [(.t 93), (.t 94)], none, []⟩,
  ⟨some 92, .mov (.t 95), none, []⟩,
  ⟨some 96, .ext (.t 92) 0, none, []⟩,
  ⟨some 97, .ext (.t 92) 1, none, []⟩,
  ⟨some 21, .mov (.t 96), none, []⟩,
  ⟨some 22, .mov (.t 97), none, []⟩] [] false)
    (.seq (.region [
  ⟨some 98, .mov (.t 17), none, []⟩,
  ⟨some 99, .mov (.t 1), none, []⟩,
  ⟨some 100, .call false [] 28 [(.t 98), (.t 99)], none, []⟩,
  ⟨some 23, .mov (.t 100), none, []⟩] [] false)
    (.seq (.region [
  ⟨some 101, .mov (.t 21), none, []⟩,
  ⟨some 102, .mov (.t 1), none, []⟩,
  ⟨some 103, .call false [] 28 [(.t 101), (.t 102)], none, []⟩,
  ⟨some 24, .mov (.t 103), none, []⟩] [] false)
    (.seq (.regionJ ⟨[.slot 121 .bool], [104, 105, 106, 107, 108, 109, 110, 111, 112, 113, 114, 115, 116, 117, 118, 119, 120], [], []⟩ [
  ⟨some 104, .mov (.t 18), none, []⟩,
  ⟨some 105, .eqn false true (.t 104), none, []⟩,
  ⟨some 106, .mov (.t 105), none, []⟩,
  ⟨some 107, .mov (.t 20), (some (106, false)), []⟩,
  ⟨some 108, .eqn false true (.t 107), (some (106, false)), []⟩,
  ⟨some 109, .pick (.t 106) (.c (.bool true)) (.t 108), none, []⟩,
  ⟨some 110, .mov (.t 109), none, []⟩,
  ⟨some 111, .mov (.t 22), (some (110, false)), []⟩,
  ⟨some 112, .eqn false true (.t 111), (some (110, false)), []⟩,
  ⟨some 113, .pick (.t 110) (.c (.bool true)) (.t 112), none, []⟩,
  ⟨some 114, .mov (.t 113), none, []⟩,
  ⟨some 115, .mov (.t 23), (some (114, false)), []⟩,
  ⟨some 116, .un .not (.t 115), (some (114, false)), []⟩,
  ⟨some 117, .pick (.t 114) (.c (.bool true)) (.t 116), none, []⟩,
  ⟨some 118, .mov (.t 117), none, []⟩,
  ⟨some 119, .mov (.t 24), (some (118, false)), []⟩,
  ⟨some 120, .un .not (.t 119), (some (118, false)), []⟩,
  ⟨some 121, .pick (.t 118) (.c (.bool true)) (.t 120), none, []⟩] [] false)
    (.cond (.t 121)
      (.seq (.region [
  ⟨some 8, .mov (.c (.bool false)), none, []⟩] [] false)
      (.ret))
      (.skip))))))))
    (.skip)))
  (.seq (.region [
  ⟨some 123, .load (some 1) (.t 4), none, []⟩,
  ⟨some 124, .mov (.t 3), none, []⟩,
  ⟨some 125, .call true [] 131 [(.t 123), (.t 124)], none, []⟩,
  ⟨some 122, .mov (.t 125), none, []⟩,
  ⟨some 126, .ext (.t 122) 0, none, []⟩,
  ⟨some 127, .ext (.t 122) 1, none, []⟩,
  ⟨some 12, .mov (.t 126), none, []⟩,
  ⟨some 13, .mov (.t 127), none, []⟩] [] false)
  (.seq (.seq (.region [
  ⟨some 128, .mov (.t 13), none, []⟩,
  ⟨some 129, .eqn false true (.t 128), none, []⟩] [] false)
  (.cond (.t 129)
    (.seq (.region [
  ⟨some 8, .mov (.c (.bool true)), none, []⟩] [] false)
    (.ret))
    (.skip)))
  (.seq (.region [
  ⟨some 131, .load (some 1) (.t 4), none, []⟩,
  ⟨some 132, .mov (.t 12), none, []⟩,
  ⟨some 133, .call false [] 133 [(.t 131), (.t 132)], none, []⟩,
  ⟨some 130, .mov (.t 133), none, []⟩,
  ⟨some 134, .ext (.t 130) 0, none, []⟩,
  ⟨some 135, .ext (.t 130) 1, none, []⟩,
  ⟨some 25, .mov (.t 134), none, []⟩,
  ⟨some 26, .mov (.t 135), none, []⟩] [] false)
  (.seq (.regionJ ⟨[.slot 8 .bool], [136, 137, 138, 139, 140, 141, 142], [], []⟩ [
  ⟨some 136, .mov (.t 26), none, []⟩,
  ⟨some 137, .eqn false false (.t 136), none, []⟩,
  ⟨some 138, .mov (.t 137), none, []⟩,
  ⟨some 139, .mov (.t 25), (some (138, true)), []⟩,
  ⟨some 140, .mov (.t 3), (some (138, true)), []⟩,
  ⟨some 141, .bin .str .eql (.t 139) (.t 140), (some (138, true)), []⟩,
  ⟨some 142, .pick (.t 138) (.t 141) (.c (.bool false)), none, []⟩,
  ⟨some 8, .mov (.t 142), none, []⟩] [] false)
  (.ret))))))))))))
def tf116 : TFunc := { np := 4, nt := 143, res := [.tmp 8], own := false, body := tc116 }
noncomputable def S116 (F131 : (List Dim) → ByteArray → (Option ((List Int) × Err))) (F132 : (List Dim) → (List Int) → (Option (Int × Err))) (F133 : (List Dim) → (List Int) → (Option (ByteArray × Err))) (F28 : (List Int) → (List Int) → (Option Bool)) (F98 : (List Dim) → Int → (Option ((List Int) × Err))) (a0 : (List Dim)) (a1 : (List Int)) (a2 : Int) (a3 : ByteArray) : Option Bool :=
  bno (F131 ([Dim.mk (⟨#[97]⟩ : ByteArray) (0 : Int) ([Member.mk (⟨#[98]⟩ : ByteArray) (-1 : Int) (0 : Int) (⟨#[]⟩ : ByteArray), Member.mk (⟨#[99]⟩ : ByteArray) (-1 : Int) (0 : Int) (⟨#[]⟩ : ByteArray)] : List Member)] : List Dim) (⟨#[99]⟩ : ByteArray)) fun y1 =>
  jn (σ := Bool) (α := Bool) (br (!(Err.isNil y1.2))
  (inlO (some true))
  (br (decide (¬ ((List.length y1.1 : Nat) : Int) = (1 : Int)))
  (inlO (some true))
  (bno (lookI y1.1 (0 : Int)) fun y2 =>
  inlO (some (decide (¬ y2 = (1 : Int))))))) fun x3 =>
  br x3
  (some false)
  (bno (F98 a0 a2) fun y4 =>
  jn (σ := Unit) (α := Bool) (br (Err.isNil y4.2)
  (bno (F132 a0 y4.1) fun y5 =>
  jn (σ := Bool) (α := (Sum Unit Bool)) (br (!(Err.isNil y5.2))
  (inlO (some true))
  (inlO (some (decide (¬ y5.1 = a2))))) fun x6 =>
  br x6
  (inrO (some false))
  (inlO (some ())))
  (inlO (some ()))) fun x7 =>
  bno (F132 a0 a1) fun y8 =>
  jn (σ := Unit) (α := Bool) (br (Err.isNil y8.2)
  (bno (F98 a0 y8.1) fun y9 =>
  bno (F133 a0 a1) fun y10 =>
  bno (F131 a0 y10.1) fun y11 =>
  bno (F28 y9.1 a1) fun y12 =>
  bno (F28 y11.1 a1) fun y13 =>
  jn (σ := Bool) (α := (Sum Unit Bool)) (br (!(Err.isNil y9.2))
  (inlO (some true))
  (br (!(Err.isNil y10.2))
  (inlO (some true))
  (br (!(Err.isNil y11.2))
  (inlO (some true))
  (br (!y12)
  (inlO (some true))
  (inlO (some (!y13))))))) fun x14 =>
  br x14
  (inrO (some false))
  (inlO (some ())))
  (inlO (some ()))) fun x15 =>
  bno (F131 a0 a3) fun y16 =>
  br (!(Err.isNil y16.2))
  (some true)
  (bno (F133 a0 y16.1) fun y17 =>
  jn (σ := Bool) (α := Bool) (br (Err.isNil y17.2)
  (inlO (some (decide (y17.1 = a3))))
  (inlO (some false))) fun x18 =>
  some x18))
theorem s116 (F131 : (List Dim) → ByteArray → (Option ((List Int) × Err))) (F132 : (List Dim) → (List Int) → (Option (Int × Err))) (F133 : (List Dim) → (List Int) → (Option (ByteArray × Err))) (F28 : (List Int) → (List Int) → (Option Bool)) (F98 : (List Dim) → Int → (Option ((List Int) × Err))) (a0 : (List Dim)) (a1 : (List Int)) (a2 : Int) (a3 : ByteArray) : tf116.run [⟨131, [(.st .outl), .str], (.tp [(.sl .int), .err]), fun x => F131 x.1 x.2, false, []⟩,
  ⟨132, [(.st .outl), (.sl .int)], (.tp [.int, .err]), fun x => F132 x.1 x.2, false, []⟩,
  ⟨133, [(.st .outl), (.sl .int)], (.tp [.str, .err]), fun x => F133 x.1 x.2, false, []⟩,
  ⟨28, [(.sl .int), (.sl .int)], .bool, fun x => F28 x.1 x.2, false, []⟩,
  ⟨98, [(.st .outl), .int], (.tp [(.sl .int), .err]), fun x => F98 x.1 x.2, false, []⟩] [(.st .outl), (.sl .int), .int, .str] .bool (a0, a1, a2, a3) = S116 F131 F132 F133 F28 F98 a0 a1 a2 a3 := by kernel_rfl
noncomputable def P116 (a0 : (List Dim)) (a1 : (List Int)) (a2 : Int) (a3 : ByteArray) : Option Bool := S116 P131 P132 P133 P28 P98 a0 a1 a2 a3
noncomputable def k116 : CSpec := ⟨116, [(.st .outl), (.sl .int), .int, .str], .bool, fun x => P116 x.1 x.2.1 x.2.2.1 x.2.2.2, false, []⟩
theorem r116 {S : Seat} (h : Ok1 S 116 tf116) (h131 : Rt S k131) (h132 : Rt S k132) (h133 : Rt S k133) (h28 : Rt S k28) (h98 : Rt S k98) : Rt S k116 := fun x y hy =>
  Ok1.sound h (C := [k131, k132, k133, k28, k98]) (CSound.cons h131 (CSound.cons h132 (CSound.cons h133 (CSound.cons h28 (CSound.cons h98 CSound.nil))))) rfl rfl rfl ((s116 P131 P132 P133 P28 P98 x.1 x.2.1 x.2.2.1 x.2.2.2).trans hy) rfl

end Ab
