/-
  Functions of the program as typed code, what they come to, and their contracts: written by program (mk.py).
-/
import Derived.Test.YtkedlclobjhkfaaB2
import Derived.KernelRfl
import Derived.Test.YtkedlclobjhkfaaMC
import Derived.Test.YtkedlclobjhkfaaMF
import Derived.Test.YtkedlclobjhkfaaMFo
import Derived.Test.YtkedlclobjhkfaaMS
namespace Ab
open Go
set_option linter.unusedVariables false
set_option maxRecDepth 100000

/- tallyhall/tallylaw4.FoldOnce -/
def tc5 : TCode :=
  .seq (.region [
  ⟨some 3, .box (.t 0), none, []⟩,
  ⟨some 6, .mov (.c (.bool false)), none, []⟩] [] false)
  (.seq (.region [
  ⟨some 15, .call true [] 22 [(.c (.int .i64 1))], none, []⟩,
  ⟨some 16, .bslice false 1 [.int .i64 0] 2 [(0, (.c (.int .i64 1))), (1, (.c (.int .i64 1)))], none, []⟩,
  ⟨some 17, .build [.slice none 0 0, .int .i64 0] [(0, 1, (.t 16)), (1, 1, (.c (.int .i64 7)))], none, []⟩,
  ⟨some 18, .bslice true 2 [.slice none 0 0, .int .i64 0] 1 [(0, (.t 17))], none, []⟩,
  ⟨some 19, .call true [] 21 [(.t 15), (.t 18)], none, []⟩,
  ⟨some 14, .mov (.t 19), none, []⟩,
  ⟨some 20, .ext (.t 14) 0, none, []⟩,
  ⟨some 21, .ext (.t 14) 1, none, []⟩,
  ⟨some 7, .mov (.t 20), none, []⟩,
  ⟨some 8, .mov (.t 21), none, []⟩] [.int, .int, .int, .entry] false)
  (.seq (.seq (.regionJ ⟨[.slot 35 .bool], [22, 23, 24, 25, 26, 27, 28, 29, 30, 31, 32, 33, 34], [], []⟩ [
  ⟨some 22, .mov (.t 8), none, []⟩,
  ⟨some 23, .eqn false true (.t 22), none, [0]⟩,
  ⟨some 24, .mov (.t 23), none, [1]⟩,
  ⟨some 25, .mov (.t 7), (some (24, false)), [2]⟩,
  ⟨some 26, .len false (.t 25), (some (24, false)), [3, 2]⟩,
  ⟨some 27, .bin .int .neq (.t 26) (.c (.int .i64 4)), (some (24, false)), [4, 2]⟩,
  ⟨some 28, .pick (.t 24) (.c (.bool true)) (.t 27), none, [2, 5]⟩,
  ⟨some 29, .mov (.t 28), none, [6, 2]⟩,
  ⟨some 30, .mov (.t 7), (some (29, false)), [7]⟩,
  ⟨some 31, .ia 2 (.t 30) (.c (.int .i64 3)), (some (29, false)), [8, 7]⟩,
  ⟨some 32, .load (some 2) (.t 31), (some (29, false)), [9, 7]⟩,
  ⟨some 33, .call false [] 8 [(.c (.int .i64 7))], (some (29, false)), [7, 7]⟩,
  ⟨some 34, .eqa true [(0, .int), (1, .int)] (.t 32) (.t 33), (some (29, false)), [10, 11, 7]⟩,
  ⟨some 35, .pick (.t 29) (.c (.bool true)) (.t 34), none, [7, 12]⟩] [] true)
  (.cond (.t 35)
    (.seq (.region [
  ⟨some 6, .mov (.c (.bool false)), none, []⟩] [] false)
    (.ret))
    (.skip)))
  (.seq (.region [
  ⟨some 37, .load (some 1) (.t 3), none, []⟩,
  ⟨some 38, .mov (.t 1), none, []⟩,
  ⟨some 39, .call true [] 21 [(.t 37), (.t 38)], none, []⟩,
  ⟨some 36, .mov (.t 39), none, []⟩,
  ⟨some 40, .ext (.t 36) 0, none, []⟩,
  ⟨some 41, .ext (.t 36) 1, none, []⟩,
  ⟨some 9, .mov (.t 40), none, []⟩,
  ⟨some 10, .mov (.t 41), none, []⟩] [] false)
  (.seq (.seq (.region [
  ⟨some 42, .mov (.t 10), none, []⟩,
  ⟨some 43, .eqn false true (.t 42), none, []⟩] [] false)
  (.cond (.t 43)
    (.seq (.region [
  ⟨some 6, .mov (.c (.bool true)), none, []⟩] [] false)
    (.ret))
    (.skip)))
  (.seq (.region [
  ⟨some 45, .load (some 1) (.t 3), none, []⟩,
  ⟨some 46, .mov (.t 9), none, []⟩,
  ⟨some 47, .mov (.t 2), none, []⟩,
  ⟨some 48, .call true [] 23 [(.t 45), (.t 46), (.t 47)], none, []⟩,
  ⟨some 44, .mov (.t 48), none, []⟩,
  ⟨some 49, .ext (.t 44) 0, none, []⟩,
  ⟨some 50, .ext (.t 44) 1, none, []⟩,
  ⟨some 11, .mov (.t 49), none, []⟩,
  ⟨some 10, .mov (.t 50), none, []⟩] [] false)
  (.seq (.seq (.region [
  ⟨some 51, .mov (.t 10), none, []⟩,
  ⟨some 52, .eqn false true (.t 51), none, []⟩] [] false)
  (.cond (.t 52)
    (.seq (.regionJ ⟨[.slot 6 .bool], [53, 54, 55, 56, 57, 58, 59, 60, 61], [], []⟩ [
  ⟨some 53, .mov (.t 2), none, []⟩,
  ⟨some 54, .bin .int .lss (.t 53) (.c (.int .i64 0)), none, []⟩,
  ⟨some 55, .mov (.t 54), none, []⟩,
  ⟨some 56, .mov (.t 2), (some (55, false)), []⟩,
  ⟨some 57, .fa 0 (.t 3), (some (55, false)), []⟩,
  ⟨some 58, .load none (.t 57), (some (55, false)), []⟩,
  ⟨some 59, .len false (.t 58), (some (55, false)), []⟩,
  ⟨some 60, .bin .int .geq (.t 56) (.t 59), (some (55, false)), []⟩,
  ⟨some 61, .pick (.t 55) (.c (.bool true)) (.t 60), none, []⟩,
  ⟨some 6, .mov (.t 61), none, []⟩] [] false)
    (.ret))
    (.skip)))
  (.seq (.region [
  ⟨some 63, .load (some 1) (.t 3), none, []⟩,
  ⟨some 64, .mov (.t 11), none, []⟩,
  ⟨some 65, .mov (.t 2), none, []⟩,
  ⟨some 66, .call true [] 23 [(.t 63), (.t 64), (.t 65)], none, []⟩,
  ⟨some 62, .mov (.t 66), none, []⟩,
  ⟨some 67, .ext (.t 62) 0, none, []⟩,
  ⟨some 68, .ext (.t 62) 1, none, []⟩,
  ⟨some 12, .mov (.t 67), none, []⟩,
  ⟨some 13, .mov (.t 68), none, []⟩] [] false)
  (.seq (.regionJ ⟨[.slot 6 .bool], [69, 70, 71, 72, 73, 74, 75], [], []⟩ [
  ⟨some 69, .mov (.t 13), none, []⟩,
  ⟨some 70, .eqn false false (.t 69), none, []⟩,
  ⟨some 71, .mov (.t 70), none, []⟩,
  ⟨some 72, .mov (.t 11), (some (71, true)), []⟩,
  ⟨some 73, .mov (.t 12), (some (71, true)), []⟩,
  ⟨some 74, .call false [] 24 [(.t 72), (.t 73)], (some (71, true)), []⟩,
  ⟨some 75, .pick (.t 71) (.t 74) (.c (.bool false)), none, []⟩,
  ⟨some 6, .mov (.t 75), none, []⟩] [] false)
  (.ret)))))))))
def tf5 : TFunc := { np := 3, nt := 76, res := [.tmp 6], own := false, body := tc5 }
noncomputable def S5 (F21 : (List Dim) → (List Entry) → (Option ((List Cell) × Err))) (F22 : Int → (Option (List Dim))) (F23 : (List Dim) → (List Cell) → Int → (Option ((List Cell) × Err))) (F24 : (List Cell) → (List Cell) → (Option Bool)) (F8 : Int → (Option Cell)) (a0 : (List Dim)) (a1 : (List Entry)) (a2 : Int) : Option Bool :=
  bno (F22 (1 : Int)) fun y1 =>
  bno (F21 y1 ([Entry.mk ([(1 : Int), (1 : Int)] : List Int) (7 : Int)] : List Entry)) fun y2 =>
  jn (σ := Bool) (α := Bool) (br (!(Err.isNil y2.2))
  (inlO (some true))
  (br (decide (¬ ((List.length y2.1 : Nat) : Int) = (4 : Int)))
  (inlO (some true))
  (bno (lookI y2.1 (3 : Int)) fun y3 =>
  bno (F8 (7 : Int)) fun y4 =>
  inlO (some (!(decide ((Cell.k y3) = (Cell.k y4)) && (decide ((Cell.n y3) = (Cell.n y4)) && true))))))) fun x5 =>
  br x5
  (some false)
  (bno (F21 a0 a1) fun y6 =>
  br (!(Err.isNil y6.2))
  (some true)
  (bno (F23 a0 y6.1 a2) fun y7 =>
  br (!(Err.isNil y7.2))
  (jn (σ := Bool) (α := Bool) (br (decide (a2 < (0 : Int)))
  (inlO (some true))
  (inlO (some (decide (((List.length a0 : Nat) : Int) ≤ a2))))) fun x8 =>
  some x8)
  (bno (F23 a0 y7.1 a2) fun y9 =>
  jn (σ := Bool) (α := Bool) (br (Err.isNil y9.2)
  (bno (F24 y7.1 y9.1) fun y10 =>
  inlO (some y10))
  (inlO (some false))) fun x11 =>
  some x11)))
theorem s5 (F21 : (List Dim) → (List Entry) → (Option ((List Cell) × Err))) (F22 : Int → (Option (List Dim))) (F23 : (List Dim) → (List Cell) → Int → (Option ((List Cell) × Err))) (F24 : (List Cell) → (List Cell) → (Option Bool)) (F8 : Int → (Option Cell)) (a0 : (List Dim)) (a1 : (List Entry)) (a2 : Int) : tf5.run [⟨21, [(.st .outl), (.sl .entry)], (.tp [(.sl .cell), .err]), fun x => F21 x.1 x.2, false, []⟩,
  ⟨22, [.int], (.st .outl), fun x => F22 x, false, []⟩,
  ⟨23, [(.st .outl), (.sl .cell), .int], (.tp [(.sl .cell), .err]), fun x => F23 x.1 x.2.1 x.2.2, false, []⟩,
  ⟨24, [(.sl .cell), (.sl .cell)], .bool, fun x => F24 x.1 x.2, false, []⟩,
  ⟨8, [.int], (.st .cell), fun x => F8 x, false, []⟩] [(.st .outl), (.sl .entry), .int] .bool (a0, a1, a2) = S5 F21 F22 F23 F24 F8 a0 a1 a2 := by kernel_rfl
noncomputable def P5 (a0 : (List Dim)) (a1 : (List Entry)) (a2 : Int) : Option Bool := S5 P21 P22 P23 P24 P8 a0 a1 a2
noncomputable def k5 : CSpec := ⟨5, [(.st .outl), (.sl .entry), .int], .bool, fun x => P5 x.1 x.2.1 x.2.2, false, []⟩
theorem r5 {S : Seat} (h : Ok1 S 5 tf5) (h21 : Rt S k21) (h22 : Rt S k22) (h23 : Rt S k23) (h24 : Rt S k24) (h8 : Rt S k8) : Rt S k5 := fun x y hy =>
  Ok1.sound h (C := [k21, k22, k23, k24, k8]) (CSound.cons h21 (CSound.cons h22 (CSound.cons h23 (CSound.cons h24 (CSound.cons h8 CSound.nil))))) rfl rfl rfl ((s5 P21 P22 P23 P24 P8 x.1 x.2.1 x.2.2).trans hy) rfl

end Ab
