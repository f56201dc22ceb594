/-
  Functions of the program as typed code, what they come to, and their contracts: written by program (mk.py).
-/
import Derived.Test.YtcabflannjeigaaB2
import Derived.KernelRfl
import Derived.Test.YtcabflannjeigaaMI
import Derived.Test.YtcabflannjeigaaC2
import Derived.Test.YtcabflannjeigaaMT
namespace Ab
open Go
set_option linter.unusedVariables false
set_option maxRecDepth 100000

/- tallyhall/roll.weight -/
def tc113 : TCode :=
  .seq (.region [
  ⟨some 3, .box (.t 0), none, []⟩,
  ⟨some 6, .mov (.c (.int .i64 0)), none, []⟩,
  ⟨some 7, .mov (.c (.bool false)), none, []⟩] [] false)
  (.seq (.region [
  ⟨some 8, .mov (.c (.int .i64 1)), none, []⟩] [] false)
  (.seq (.seq (.region [
  ⟨some 13, .mov (.t 1), none, []⟩,
  ⟨some 14, .len false (.t 13), none, []⟩,
  ⟨some 15, .mov (.c (.int .i64 0)), none, []⟩] [] false)
  (.loop ⟨[.slot 8 .int, .slot 15 .int], [9, 10, 11, 12, 16, 17, 18, 19, 20, 21, 22, 23, 24, 25, 26, 27, 28, 29, 30, 31, 32, 33, 34, 35, 36, 37, 38, 39], [], []⟩ 0 (.seq (.region [
  ⟨some 16, .bin .int .lss (.t 15) (.t 14), none, []⟩] [] false)
    (.seq (.cond (.t 16)
      (.skip)
      (.exit 0))
    (.seq (.block 1 (.seq (.region [
  ⟨some 17, .mov (.t 15), none, []⟩,
  ⟨some 18, .ia 1 (.t 13) (.t 15), none, []⟩,
  ⟨some 19, .load none (.t 18), none, []⟩,
  ⟨some 9, .mov (.t 17), none, []⟩,
  ⟨some 10, .mov (.t 19), none, []⟩] [] false)
      (.seq (.region [
  ⟨some 21, .fa 0 (.t 3), none, []⟩,
  ⟨some 22, .load none (.t 21), none, [0]⟩,
  ⟨some 23, .mov (.t 9), none, []⟩,
  ⟨some 24, .ia 3 (.t 22) (.t 23), none, [1, 2]⟩,
  ⟨some 25, .load (some 3) (.t 24), none, [3]⟩,
  ⟨some 26, .mov (.t 10), none, []⟩,
  ⟨some 27, .mov (.t 2), none, []⟩,
  ⟨some 28, .mov (.t 9), none, []⟩,
  ⟨some 29, .ia 1 (.t 27) (.t 28), none, [6, 7]⟩,
  ⟨some 30, .load none (.t 29), none, [8]⟩,
  ⟨some 31, .call false [] 45 [(.t 25), (.t 26), (.t 30)], none, [4, 5, 9]⟩,
  ⟨some 20, .mov (.t 31), none, [10]⟩,
  ⟨some 32, .ext (.t 20) 0, none, [11]⟩,
  ⟨some 33, .ext (.t 20) 1, none, [11]⟩,
  ⟨some 11, .mov (.t 32), none, [12, 10, 0, 1, 2, 3, 4, 5, 6, 7, 8, 9, 10, 11, 12]⟩,
  ⟨some 12, .mov (.t 33), none, [13, 14, 0, 1, 2, 3, 4, 5, 6, 7, 8, 9, 10, 11, 12, 13, 14]⟩] [] true)
      (.seq (.seq (.region [
  ⟨some 34, .mov (.t 12), none, []⟩,
  ⟨some 35, .un .not (.t 34), none, []⟩] [] false)
      (.cond (.t 35)
        (.seq (.region [
  ⟨some 6, .mov (.c (.int .i64 0)), none, []⟩,
  ⟨some 7, .mov (.c (.bool false)), none, []⟩] [] false)
        (.ret))
        (.skip)))
      (.region [
  ⟨some 36, .mov (.t 8), none, []⟩,
  ⟨some 37, .mov (.t 11), none, []⟩,
  ⟨some 38, .bin .int .mul (.t 36) (.t 37), none, []⟩,
  ⟨some 8, .mov (.t 38), none, []⟩] [] false)))))
    (.region [
  ⟨some 39, .bin .int .add (.t 15) (.c (.int .i64 1)), none, []⟩,
  ⟨some 15, .mov (.t 39), none, []⟩] [] false))))))
  (.seq (.region [
  ⟨some 40, .mov (.t 8), none, []⟩,
  ⟨some 6, .mov (.t 40), none, []⟩,
  ⟨some 7, .mov (.c (.bool true)), none, []⟩] [] false)
  (.ret))))
def tf113 : TFunc := { np := 3, nt := 41, res := [.tmp 6, .tmp 7], own := false, body := tc113 }
noncomputable def S113_L1 (F45 : Dim → Int → Int → (Option (Int × Bool))) (a0 : (List Dim)) (a1 : (List Int)) (a2 : (List Int)) (x1 : (Int × Int)) : Option (LR (Int × Int) (Int × Bool)) :=
  br (decide (x1.2 < ((List.length a1 : Nat) : Int)))
  (bno (lookI a1 x1.2) fun y2 =>
  bno (lookI a0 x1.2) fun y3 =>
  bno (lookI a2 x1.2) fun y4 =>
  bno (F45 y3 y2 y4) fun y5 =>
  br (!y5.2)
  (finO (some ((0 : Int), false)))
  (nxO (some (wi (x1.1 * y5.1), wi (x1.2 + (1 : Int))))))
  (dnO (some (x1.1, x1.2)))
noncomputable def S113 (F45 : Dim → Int → Int → (Option (Int × Bool))) (a0 : (List Dim)) (a1 : (List Int)) (a2 : (List Int)) : Option (Int × Bool) :=
  lp (S113_L1 F45 a0 a1 a2) ((1 : Int), (0 : Int)) fun x6 =>
  some (x6.1, true)
theorem s113 (F45 : Dim → Int → Int → (Option (Int × Bool))) (a0 : (List Dim)) (a1 : (List Int)) (a2 : (List Int)) : tf113.run [⟨45, [(.st .dim), .int, .int], (.tp [.int, .bool]), fun x => F45 x.1 x.2.1 x.2.2, false, []⟩] [(.st .outl), (.sl .int), (.sl .int)] (.tp [.int, .bool]) (a0, a1, a2) = S113 F45 a0 a1 a2 := by kernel_rfl
noncomputable def P113 (a0 : (List Dim)) (a1 : (List Int)) (a2 : (List Int)) : Option (Int × Bool) := S113 P45 a0 a1 a2
noncomputable def k113 : CSpec := ⟨113, [(.st .outl), (.sl .int), (.sl .int)], (.tp [.int, .bool]), fun x => P113 x.1 x.2.1 x.2.2, false, []⟩
theorem r113 {S : Seat} (h : Ok1 S 113 tf113) (h45 : Rt S k45) : Rt S k113 := fun x y hy =>
  Ok1.sound h (C := [k45]) (CSound.cons h45 CSound.nil) rfl rfl rfl ((s113 P45 x.1 x.2.1 x.2.2).trans hy) rfl

/- tallyhall/roll.Value -/
def tc110 : TCode :=
  .seq (.region [
  ⟨some 3, .box (.t 0), none, []⟩,
  ⟨some 6, .alloc [.int .i64 0, .int .i64 0], none, []⟩,
  ⟨some 7, .mov (.c (.nilIface)), none, []⟩] [] false)
  (.seq (.seq (.region [
  ⟨some 15, .load (some 1) (.t 3), none, []⟩,
  ⟨some 16, .mov (.t 1), none, []⟩,
  ⟨some 17, .call false [] 27 [(.t 15), (.t 16)], none, []⟩,
  ⟨some 8, .mov (.t 17), none, []⟩] [] false)
  (.seq (.region [
  ⟨some 18, .mov (.t 8), none, []⟩,
  ⟨some 19, .eqn false true (.t 18), none, []⟩] [] false)
  (.cond (.t 19)
    (.seq (.region [
  ⟨some 20, .build [.int .i64 0, .int .i64 0] [], none, []⟩,
  ⟨some 21, .mov (.t 8), none, []⟩,
  ⟨none, .store 2 (.t 6) (.t 20), none, []⟩,
  ⟨some 7, .mov (.t 21), none, []⟩] [] false)
    (.ret))
    (.skip))))
  (.seq (.seq (.region [
  ⟨some 22, .load (some 1) (.t 3), none, []⟩,
  ⟨some 23, .mov (.t 2), none, []⟩,
  ⟨some 24, .call false [] 58 [(.t 22), (.t 23)], none, []⟩,
  ⟨some 9, .mov (.t 24), none, []⟩] [] false)
  (.seq (.region [
  ⟨some 25, .mov (.t 9), none, []⟩,
  ⟨some 26, .eqn false true (.t 25), none, []⟩] [] false)
  (.cond (.t 26)
    (.seq (.region [
  ⟨some 27, .build [.int .i64 0, .int .i64 0] [], none, []⟩,
  ⟨some 28, .mov (.t 9), none, []⟩,
  ⟨none, .store 2 (.t 6) (.t 27), none, []⟩,
  ⟨some 7, .mov (.t 28), none, []⟩] [] false)
    (.ret))
    (.skip))))
  (.seq (.region [
  ⟨some 10, .alloc [.int .i64 0, .int .i64 0], none, []⟩] [] false)
  (.seq (.seq (.region [
  ⟨some 29, .mov (.t 1), none, []⟩,
  ⟨some 30, .len false (.t 29), none, []⟩,
  ⟨some 31, .mov (.c (.int .i64 0)), none, []⟩] [] false)
  (.loop ⟨[.slot 31 .int, .var 10 [.sh .int, .sh .int]], [12, 13, 14, 32, 33, 34, 35, 36, 37, 38, 39, 40, 41, 42, 43, 44, 45, 46, 47, 48, 49, 50, 51, 52, 53, 54, 55, 56, 57], [12], []⟩ 0 (.seq (.region [
  ⟨some 32, .bin .int .lss (.t 31) (.t 30), none, []⟩] [] false)
    (.seq (.cond (.t 32)
      (.skip)
      (.exit 0))
    (.seq (.block 1 (.seq (.region [
  ⟨some 33, .ia 2 (.t 29) (.t 31), none, []⟩,
  ⟨some 34, .load (some 2) (.t 33), none, []⟩,
  ⟨some 12, .alloc [.slice none 0 0, .int .i64 0], none, []⟩,
  ⟨none, .store 2 (.t 12) (.t 34), none, []⟩] [] false)
      (.seq (.region [
  ⟨some 36, .load (some 1) (.t 3), none, []⟩,
  ⟨some 37, .mov (.t 2), none, []⟩,
  ⟨some 38, .fa 0 (.t 12), none, []⟩,
  ⟨some 39, .load none (.t 38), none, []⟩,
  ⟨some 40, .call false [] 113 [(.t 36), (.t 37), (.t 39)], none, []⟩,
  ⟨some 35, .mov (.t 40), none, []⟩,
  ⟨some 41, .ext (.t 35) 0, none, []⟩,
  ⟨some 42, .ext (.t 35) 1, none, []⟩,
  ⟨some 13, .mov (.t 41), none, []⟩,
  ⟨some 14, .mov (.t 42), none, []⟩] [] false)
      (.seq (.regionJ ⟨[.slot 47 .bool], [43, 44, 45, 46], [], []⟩ [
  ⟨some 43, .mov (.t 14), none, []⟩,
  ⟨some 44, .mov (.t 43), none, []⟩,
  ⟨some 45, .mov (.t 13), (some (44, true)), []⟩,
  ⟨some 46, .bin .int .neq (.t 45) (.c (.int .i64 0)), (some (44, true)), []⟩,
  ⟨some 47, .pick (.t 44) (.t 46) (.c (.bool false)), none, []⟩] [] false)
      (.condJ ⟨[.var 10 [.sh .int, .sh .int]], [48, 49, 50, 51, 52, 53, 54, 55, 56], [], []⟩ (.t 47)
        (.seq (.region [
  ⟨some 48, .fa 0 (.t 10), none, []⟩,
  ⟨none, .store 1 (.t 48) (.c (.int .i64 1)), none, []⟩] [] false)
        (.region [
  ⟨some 49, .fa 1 (.t 10), none, []⟩,
  ⟨some 50, .load none (.t 49), none, []⟩,
  ⟨some 51, .mov (.t 13), none, []⟩,
  ⟨some 52, .fa 1 (.t 12), none, []⟩,
  ⟨some 53, .load none (.t 52), none, []⟩,
  ⟨some 54, .bin .int .mul (.t 51) (.t 53), none, []⟩,
  ⟨some 55, .bin .int .add (.t 50) (.t 54), none, []⟩,
  ⟨some 56, .fa 1 (.t 10), none, []⟩,
  ⟨none, .store 1 (.t 56) (.t 55), none, []⟩] [] false))
        (.skip))))))
    (.region [
  ⟨some 57, .bin .int .add (.t 31) (.c (.int .i64 1)), none, []⟩,
  ⟨some 31, .mov (.t 57), none, []⟩] [] false))))))
  (.seq (.region [
  ⟨some 58, .load (some 2) (.t 10), none, []⟩,
  ⟨none, .store 2 (.t 6) (.t 58), none, []⟩,
  ⟨some 7, .mov (.c (.nilIface)), none, []⟩] [] false)
  (.ret))))))
def tf110 : TFunc := { np := 3, nt := 59, res := [.cell 6 (some 2), .tmp 7], own := false, body := tc110 }
noncomputable def S110_L1 (F113 : (List Dim) → (List Int) → (List Int) → (Option (Int × Bool))) (a0 : (List Dim)) (a1 : (List Entry)) (a2 : (List Int)) (x3 : (Int × (Int × Int))) : Option (LR (Int × (Int × Int)) (Cell × Err)) :=
  br (decide (x3.1 < ((List.length a1 : Nat) : Int)))
  (bno (lookI a1 x3.1) fun y4 =>
  bno (F113 a0 a2 (Entry.at_ y4)) fun y5 =>
  jn (σ := Bool) (α := (LR (Int × (Int × Int)) (Cell × Err))) (br y5.2
  (inlO (some (decide (¬ y5.1 = (0 : Int)))))
  (inlO (some false))) fun x6 =>
  jn (σ := (Int × Int)) (α := (LR (Int × (Int × Int)) (Cell × Err))) (br x6
  (inlO (some ((1 : Int), wi (x3.2.2 + (wi (y5.1 * (Entry.n y4)))))))
  (inlO (some (x3.2.1, x3.2.2)))) fun x7 =>
  nxO (some (wi (x3.1 + (1 : Int)), (x7.1, x7.2))))
  (dnO (some (x3.1, (x3.2.1, x3.2.2))))
noncomputable def S110 (F113 : (List Dim) → (List Int) → (List Int) → (Option (Int × Bool))) (F27 : (List Dim) → (List Entry) → (Option Err)) (F58 : (List Dim) → (List Int) → (Option Err)) (a0 : (List Dim)) (a1 : (List Entry)) (a2 : (List Int)) : Option (Cell × Err) :=
  bno (F27 a0 a1) fun y1 =>
  br (!(Err.isNil y1))
  (some (Cell.mk (0 : Int) (0 : Int), y1))
  (bno (F58 a0 a2) fun y2 =>
  br (!(Err.isNil y2))
  (some (Cell.mk (0 : Int) (0 : Int), y2))
  (lp (S110_L1 F113 a0 a1 a2) ((0 : Int), ((0 : Int), (0 : Int))) fun x8 =>
  some (Cell.mk x8.2.1 x8.2.2, Err.nil)))
theorem s110 (F113 : (List Dim) → (List Int) → (List Int) → (Option (Int × Bool))) (F27 : (List Dim) → (List Entry) → (Option Err)) (F58 : (List Dim) → (List Int) → (Option Err)) (a0 : (List Dim)) (a1 : (List Entry)) (a2 : (List Int)) : tf110.run [⟨113, [(.st .outl), (.sl .int), (.sl .int)], (.tp [.int, .bool]), fun x => F113 x.1 x.2.1 x.2.2, false, []⟩,
  ⟨27, [(.st .outl), (.sl .entry)], .err, fun x => F27 x.1 x.2, false, []⟩,
  ⟨58, [(.st .outl), (.sl .int)], .err, fun x => F58 x.1 x.2, false, []⟩] [(.st .outl), (.sl .entry), (.sl .int)] (.tp [(.st .cell), .err]) (a0, a1, a2) = S110 F113 F27 F58 a0 a1 a2 := by kernel_rfl
noncomputable def P110 (a0 : (List Dim)) (a1 : (List Entry)) (a2 : (List Int)) : Option (Cell × Err) := S110 P113 P27 P58 a0 a1 a2
noncomputable def k110 : CSpec := ⟨110, [(.st .outl), (.sl .entry), (.sl .int)], (.tp [(.st .cell), .err]), fun x => P110 x.1 x.2.1 x.2.2, false, []⟩
theorem r110 {S : Seat} (h : Ok1 S 110 tf110) (h113 : Rt S k113) (h27 : Rt S k27) (h58 : Rt S k58) : Rt S k110 := fun x y hy =>
  Ok1.sound h (C := [k113, k27, k58]) (CSound.cons h113 (CSound.cons h27 (CSound.cons h58 CSound.nil))) rfl rfl rfl ((s110 P113 P27 P58 x.1 x.2.1 x.2.2).trans hy) rfl

/- tallyhall/roll.Weight -/
/- tallyhall/roll.Leafs -/
end Ab
