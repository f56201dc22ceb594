/-
  Functions of the program as typed code, what they come to, and their contracts: written by program (mk.py).
-/
import Derived.Test.YtcabflannjeigaaB2
import Derived.KernelRfl
import Derived.Test.YtcabflannjeigaaMC
import Derived.Test.YtcabflannjeigaaMFt
import Derived.Test.YtcabflannjeigaaC2
import Derived.Test.YtcabflannjeigaaMRo
import Derived.Test.YtcabflannjeigaaC1
namespace Ab
open Go
set_option linter.unusedVariables false
set_option maxRecDepth 100000

/- tallyhall/tallylaw1.FoldOrders -/
def tc208 : TCode :=
  .seq (.region [
  ⟨some 5, .box (.t 0), none, []⟩,
  ⟨some 10, .mov (.c (.bool false)), none, []⟩] [] false)
  (.seq (.region [
  ⟨some 21, .build [.string ⟨#[]⟩, .int .i64 0, .int .i64 0, .string ⟨#[]⟩] [(0, 1, (.c (.string ⟨#[98]⟩))), (1, 1, (.c (.int .i64 (-1))))], none, []⟩,
  ⟨some 22, .build [.string ⟨#[]⟩, .int .i64 0, .int .i64 0, .string ⟨#[]⟩] [(0, 1, (.c (.string ⟨#[99]⟩))), (1, 1, (.c (.int .i64 0))), (2, 1, (.c (.int .i64 1)))], none, []⟩,
  ⟨some 23, .bslice false 4 [.string ⟨#[]⟩, .int .i64 0, .int .i64 0, .string ⟨#[]⟩] 2 [(0, (.t 21)), (1, (.t 22))], none, []⟩,
  ⟨some 24, .build [.string ⟨#[]⟩, .int .i64 0, .slice none 0 0] [(0, 1, (.c (.string ⟨#[97]⟩))), (2, 1, (.t 23))], none, []⟩,
  ⟨some 25, .bslice true 3 [.string ⟨#[]⟩, .int .i64 0, .slice none 0 0] 1 [(0, (.t 24))], none, []⟩,
  ⟨some 26, .build [.slice none 0 0] [(0, 1, (.t 25))], none, []⟩,
  ⟨some 11, .alloc [.slice none 0 0], none, []⟩,
  ⟨none, .store 1 (.t 11) (.t 26), none, []⟩] [.int, .int, .member, .int, .dim] false)
  (.seq (.region [
  ⟨some 28, .load (some 1) (.t 11), none, []⟩,
  ⟨some 29, .bslice false 1 [.int .i64 0] 1 [(0, (.c (.int .i64 1)))], none, []⟩,
  ⟨some 30, .build [.slice none 0 0, .int .i64 0] [(0, 1, (.t 29)), (1, 1, (.c (.int .i64 7)))], none, []⟩,
  ⟨some 31, .bslice true 2 [.slice none 0 0, .int .i64 0] 1 [(0, (.t 30))], none, []⟩,
  ⟨some 32, .bslice false 1 [.int .i64 0] 1 [(0, (.c (.int .i64 0)))], none, []⟩,
  ⟨some 33, .call true [] 209 [(.t 28), (.t 31), (.t 32)], none, []⟩,
  ⟨some 27, .mov (.t 33), none, []⟩,
  ⟨some 34, .ext (.t 27) 0, none, []⟩,
  ⟨some 35, .ext (.t 27) 1, none, []⟩,
  ⟨some 12, .mov (.t 34), none, []⟩,
  ⟨some 13, .mov (.t 35), none, []⟩] [.int, .int, .int, .entry] false)
  (.seq (.seq (.regionJ ⟨[.slot 49 .bool], [36, 37, 38, 39, 40, 41, 42, 43, 44, 45, 46, 47, 48], [], []⟩ [
  ⟨some 36, .mov (.t 13), none, []⟩,
  ⟨some 37, .eqn false true (.t 36), none, [0]⟩,
  ⟨some 38, .mov (.t 37), none, [1]⟩,
  ⟨some 39, .mov (.t 12), (some (38, false)), [2]⟩,
  ⟨some 40, .len false (.t 39), (some (38, false)), [3, 2]⟩,
  ⟨some 41, .bin .int .neq (.t 40) (.c (.int .i64 2)), (some (38, false)), [4, 2]⟩,
  ⟨some 42, .pick (.t 38) (.c (.bool true)) (.t 41), none, [2, 5]⟩,
  ⟨some 43, .mov (.t 42), none, [6, 2]⟩,
  ⟨some 44, .mov (.t 12), (some (43, false)), [7]⟩,
  ⟨some 45, .ia 2 (.t 44) (.c (.int .i64 0)), (some (43, false)), [8, 7]⟩,
  ⟨some 46, .load (some 2) (.t 45), (some (43, false)), [9, 7]⟩,
  ⟨some 47, .call false [] 8 [(.c (.int .i64 7))], (some (43, false)), [7, 7]⟩,
  ⟨some 48, .eqa true [(0, .int), (1, .int)] (.t 46) (.t 47), (some (43, false)), [10, 11, 7]⟩,
  ⟨some 49, .pick (.t 43) (.c (.bool true)) (.t 48), none, [7, 12]⟩] [] true)
  (.cond (.t 49)
    (.seq (.region [
  ⟨some 10, .mov (.c (.bool false)), none, []⟩] [] false)
    (.ret))
    (.skip)))
  (.seq (.region [
  ⟨some 51, .load (some 1) (.t 5), none, []⟩,
  ⟨some 52, .mov (.t 1), none, []⟩,
  ⟨some 53, .mov (.t 2), none, []⟩,
  ⟨some 54, .call true [] 209 [(.t 51), (.t 52), (.t 53)], none, []⟩,
  ⟨some 50, .mov (.t 54), none, []⟩,
  ⟨some 55, .ext (.t 50) 0, none, []⟩,
  ⟨some 56, .ext (.t 50) 1, none, []⟩,
  ⟨some 14, .mov (.t 55), none, []⟩,
  ⟨some 15, .mov (.t 56), none, []⟩] [] false)
  (.seq (.region [
  ⟨some 58, .load (some 1) (.t 5), none, []⟩,
  ⟨some 59, .mov (.t 1), none, []⟩,
  ⟨some 60, .mov (.t 3), none, []⟩,
  ⟨some 61, .call true [] 209 [(.t 58), (.t 59), (.t 60)], none, []⟩,
  ⟨some 57, .mov (.t 61), none, []⟩,
  ⟨some 62, .ext (.t 57) 0, none, []⟩,
  ⟨some 63, .ext (.t 57) 1, none, []⟩,
  ⟨some 16, .mov (.t 62), none, []⟩,
  ⟨some 17, .mov (.t 63), none, []⟩] [] false)
  (.seq (.seq (.regionJ ⟨[.slot 69 .bool], [64, 65, 66, 67, 68], [], []⟩ [
  ⟨some 64, .mov (.t 15), none, []⟩,
  ⟨some 65, .eqn false true (.t 64), none, []⟩,
  ⟨some 66, .mov (.t 65), none, []⟩,
  ⟨some 67, .mov (.t 17), (some (66, false)), []⟩,
  ⟨some 68, .eqn false true (.t 67), (some (66, false)), []⟩,
  ⟨some 69, .pick (.t 66) (.c (.bool true)) (.t 68), none, []⟩] [] false)
  (.cond (.t 69)
    (.seq (.region [
  ⟨some 10, .mov (.c (.bool true)), none, []⟩] [] false)
    (.ret))
    (.skip)))
  (.seq (.region [
  ⟨some 70, .mov (.t 14), none, []⟩,
  ⟨some 71, .mov (.t 16), none, []⟩,
  ⟨some 72, .call false [] 24 [(.t 70), (.t 71)], none, []⟩,
  ⟨some 18, .mov (.t 72), none, []⟩] [] false)
  (.seq (.seq (.region [
  ⟨some 73, .mov (.t 18), none, []⟩,
  ⟨some 74, .un .not (.t 73), none, []⟩] [] false)
  (.cond (.t 74)
    (.seq (.region [
  ⟨some 10, .mov (.c (.bool false)), none, []⟩] [] false)
    (.ret))
    (.skip)))
  (.seq (.region [
  ⟨some 76, .load (some 1) (.t 5), none, []⟩,
  ⟨some 77, .mov (.t 4), none, []⟩,
  ⟨some 78, .call false [] 132 [(.t 76), (.t 77)], none, []⟩,
  ⟨some 75, .mov (.t 78), none, []⟩,
  ⟨some 79, .ext (.t 75) 0, none, []⟩,
  ⟨some 80, .ext (.t 75) 1, none, []⟩,
  ⟨some 19, .mov (.t 79), none, []⟩,
  ⟨some 15, .mov (.t 80), none, []⟩] [] false)
  (.seq (.region [
  ⟨some 82, .load (some 1) (.t 5), none, []⟩,
  ⟨some 83, .mov (.t 1), none, []⟩,
  ⟨some 84, .mov (.t 4), none, []⟩,
  ⟨some 85, .call false [] 110 [(.t 82), (.t 83), (.t 84)], none, []⟩,
  ⟨some 81, .mov (.t 85), none, []⟩,
  ⟨some 86, .ext (.t 81) 0, none, []⟩,
  ⟨some 87, .ext (.t 81) 1, none, []⟩,
  ⟨some 20, .alloc [.int .i64 0, .int .i64 0], none, []⟩,
  ⟨none, .store 2 (.t 20) (.t 86), none, []⟩,
  ⟨some 17, .mov (.t 87), none, []⟩] [] false)
  (.seq (.seq (.regionJ ⟨[.slot 93 .bool], [88, 89, 90, 91, 92], [], []⟩ [
  ⟨some 88, .mov (.t 15), none, []⟩,
  ⟨some 89, .eqn false true (.t 88), none, []⟩,
  ⟨some 90, .mov (.t 89), none, []⟩,
  ⟨some 91, .mov (.t 17), (some (90, false)), []⟩,
  ⟨some 92, .eqn false true (.t 91), (some (90, false)), []⟩,
  ⟨some 93, .pick (.t 90) (.c (.bool true)) (.t 92), none, []⟩] [] false)
  (.cond (.t 93)
    (.seq (.region [
  ⟨some 10, .mov (.c (.bool true)), none, []⟩] [] false)
    (.ret))
    (.skip)))
  (.seq (.regionJ ⟨[.slot 10 .bool], [94, 95, 96, 97, 98, 99, 100, 101, 102, 103, 104, 105, 106, 107, 108, 109], [], []⟩ [
  ⟨some 94, .mov (.t 19), none, []⟩,
  ⟨some 95, .bin .int .geq (.t 94) (.c (.int .i64 0)), none, [0]⟩,
  ⟨some 96, .mov (.t 95), none, [1]⟩,
  ⟨some 97, .mov (.t 19), (some (96, true)), [2]⟩,
  ⟨some 98, .mov (.t 14), (some (96, true)), [2]⟩,
  ⟨some 99, .len false (.t 98), (some (96, true)), [4, 2]⟩,
  ⟨some 100, .bin .int .lss (.t 97) (.t 99), (some (96, true)), [3, 5, 2]⟩,
  ⟨some 101, .pick (.t 96) (.t 100) (.c (.bool false)), none, [2, 6]⟩,
  ⟨some 102, .mov (.t 101), none, [7, 2]⟩,
  ⟨some 103, .mov (.t 14), (some (102, true)), [8]⟩,
  ⟨some 104, .mov (.t 19), (some (102, true)), [8]⟩,
  ⟨some 105, .ia 2 (.t 103) (.t 104), (some (102, true)), [9, 10, 8]⟩,
  ⟨some 106, .load (some 2) (.t 105), (some (102, true)), [11, 8]⟩,
  ⟨some 107, .load (some 2) (.t 20), (some (102, true)), [8]⟩,
  ⟨some 108, .eqa false [(0, .int), (1, .int)] (.t 106) (.t 107), (some (102, true)), [12, 13, 8]⟩,
  ⟨some 109, .pick (.t 102) (.t 108) (.c (.bool false)), none, [8, 14]⟩,
  ⟨some 10, .mov (.t 109), none, [15, 8, 0, 1, 2, 3, 4, 5, 6, 7, 8, 9, 10, 11, 12, 13, 14, 15]⟩] [] true)
  (.ret)))))))))))))
def tf208 : TFunc := { np := 5, nt := 110, res := [.tmp 10], own := false, body := tc208 }
noncomputable def S208 (F110 : (List Dim) → (List Entry) → (List Int) → (Option (Cell × Err))) (F132 : (List Dim) → (List Int) → (Option (Int × Err))) (F209 : (List Dim) → (List Entry) → (List Int) → (Option ((List Cell) × Err))) (F24 : (List Cell) → (List Cell) → (Option Bool)) (F8 : Int → (Option Cell)) (a0 : (List Dim)) (a1 : (List Entry)) (a2 : (List Int)) (a3 : (List Int)) (a4 : (List Int)) : Option Bool :=
  bno (F209 ([Dim.mk (⟨#[97]⟩ : ByteArray) (0 : Int) ([Member.mk (⟨#[98]⟩ : ByteArray) (-1 : Int) (0 : Int) (⟨#[]⟩ : ByteArray), Member.mk (⟨#[99]⟩ : ByteArray) (0 : Int) (1 : Int) (⟨#[]⟩ : ByteArray)] : List Member)] : List Dim) ([Entry.mk ([(1 : Int)] : List Int) (7 : Int)] : List Entry) ([(0 : Int)] : List Int)) fun y1 =>
  jn (σ := Bool) (α := Bool) (br (!(Err.isNil y1.2))
  (inlO (some true))
  (br (decide (¬ ((List.length y1.1 : Nat) : Int) = (2 : Int)))
  (inlO (some true))
  (bno (lookI y1.1 (0 : Int)) fun y2 =>
  bno (F8 (7 : Int)) fun y3 =>
  inlO (some (!(decide ((Cell.k y2) = (Cell.k y3)) && (decide ((Cell.n y2) = (Cell.n y3)) && true))))))) fun x4 =>
  br x4
  (some false)
  (bno (F209 a0 a1 a2) fun y5 =>
  bno (F209 a0 a1 a3) fun y6 =>
  jn (σ := Bool) (α := Bool) (br (!(Err.isNil y5.2))
  (inlO (some true))
  (inlO (some (!(Err.isNil y6.2))))) fun x7 =>
  br x7
  (some true)
  (bno (F24 y5.1 y6.1) fun y8 =>
  br (!y8)
  (some false)
  (bno (F132 a0 a4) fun y9 =>
  bno (F110 a0 a1 a4) fun y10 =>
  jn (σ := Bool) (α := Bool) (br (!(Err.isNil y9.2))
  (inlO (some true))
  (inlO (some (!(Err.isNil y10.2))))) fun x11 =>
  br x11
  (some true)
  (jn (σ := Bool) (α := Bool) (br (decide ((0 : Int) ≤ y9.1))
  (br (decide (y9.1 < ((List.length y5.1 : Nat) : Int)))
  (bno (lookI y5.1 y9.1) fun y12 =>
  inlO (some (decide ((Cell.k y12) = (Cell.k y10.1)) && (decide ((Cell.n y12) = (Cell.n y10.1)) && true))))
  (inlO (some false)))
  (inlO (some false))) fun x13 =>
  some x13))))
theorem s208 (F110 : (List Dim) → (List Entry) → (List Int) → (Option (Cell × Err))) (F132 : (List Dim) → (List Int) → (Option (Int × Err))) (F209 : (List Dim) → (List Entry) → (List Int) → (Option ((List Cell) × Err))) (F24 : (List Cell) → (List Cell) → (Option Bool)) (F8 : Int → (Option Cell)) (a0 : (List Dim)) (a1 : (List Entry)) (a2 : (List Int)) (a3 : (List Int)) (a4 : (List Int)) : tf208.run [⟨110, [(.st .outl), (.sl .entry), (.sl .int)], (.tp [(.st .cell), .err]), fun x => F110 x.1 x.2.1 x.2.2, false, []⟩,
  ⟨132, [(.st .outl), (.sl .int)], (.tp [.int, .err]), fun x => F132 x.1 x.2, false, []⟩,
  ⟨209, [(.st .outl), (.sl .entry), (.sl .int)], (.tp [(.sl .cell), .err]), fun x => F209 x.1 x.2.1 x.2.2, false, []⟩,
  ⟨24, [(.sl .cell), (.sl .cell)], .bool, fun x => F24 x.1 x.2, false, []⟩,
  ⟨8, [.int], (.st .cell), fun x => F8 x, false, []⟩] [(.st .outl), (.sl .entry), (.sl .int), (.sl .int), (.sl .int)] .bool (a0, a1, a2, a3, a4) = S208 F110 F132 F209 F24 F8 a0 a1 a2 a3 a4 := by kernel_rfl
noncomputable def P208 (a0 : (List Dim)) (a1 : (List Entry)) (a2 : (List Int)) (a3 : (List Int)) (a4 : (List Int)) : Option Bool := S208 P110 P132 P209 P24 P8 a0 a1 a2 a3 a4
noncomputable def k208 : CSpec := ⟨208, [(.st .outl), (.sl .entry), (.sl .int), (.sl .int), (.sl .int)], .bool, fun x => P208 x.1 x.2.1 x.2.2.1 x.2.2.2.1 x.2.2.2.2, false, []⟩
theorem r208 {S : Seat} (h : Ok1 S 208 tf208) (h110 : Rt S k110) (h132 : Rt S k132) (h209 : Rt S k209) (h24 : Rt S k24) (h8 : Rt S k8) : Rt S k208 := fun x y hy =>
  Ok1.sound h (C := [k110, k132, k209, k24, k8]) (CSound.cons h110 (CSound.cons h132 (CSound.cons h209 (CSound.cons h24 (CSound.cons h8 CSound.nil))))) rfl rfl rfl ((s208 P110 P132 P209 P24 P8 x.1 x.2.1 x.2.2.1 x.2.2.2.1 x.2.2.2.2).trans hy) rfl

end Ab
