/-
  Functions of the program as typed code, what they come to, and their contracts: written by program (mk.py).
-/
import Derived.Test.YtcabflannjeigaaGreatDoorB2
import Derived.KernelRfl
namespace Ab
open Go
set_option linter.unusedVariables false
set_option maxRecDepth 100000

/- tallyhall/tallyref1.Cell -/
def tc144 : TCode :=
  .seq (.region [
  ⟨some 1, .box (.t 0), none, []⟩,
  ⟨some 2, .mov (.c (.int .i64 0)), none, []⟩] [] false)
  (.seq (.seq (.regionJ ⟨[.slot 30 .bool], [3, 4, 5, 6, 7, 8, 9, 10, 11, 12, 13, 14, 15, 16, 17, 18, 19, 20, 21, 22, 23, 24, 25, 26, 27, 28, 29], [], []⟩ [
  ⟨some 3, .fa 0 (.t 1), none, []⟩,
  ⟨some 4, .load none (.t 3), none, []⟩,
  ⟨some 5, .bin .int .lss (.t 4) (.c (.int .i64 0)), none, []⟩,
  ⟨some 6, .mov (.t 5), none, []⟩,
  ⟨some 7, .fa 0 (.t 1), (some (6, false)), []⟩,
  ⟨some 8, .load none (.t 7), (some (6, false)), []⟩,
  ⟨some 9, .bin .int .gtr (.t 8) (.c (.int .i64 2)), (some (6, false)), []⟩,
  ⟨some 10, .pick (.t 6) (.c (.bool true)) (.t 9), none, []⟩,
  ⟨some 11, .mov (.t 10), none, []⟩,
  ⟨some 12, .fa 1 (.t 1), (some (11, false)), []⟩,
  ⟨some 13, .load none (.t 12), (some (11, false)), []⟩,
  ⟨some 14, .bin .int .lss (.t 13) (.c (.int .i64 (-1000000000000))), (some (11, false)), []⟩,
  ⟨some 15, .pick (.t 11) (.c (.bool true)) (.t 14), none, []⟩,
  ⟨some 16, .mov (.t 15), none, []⟩,
  ⟨some 17, .fa 1 (.t 1), (some (16, false)), []⟩,
  ⟨some 18, .load none (.t 17), (some (16, false)), []⟩,
  ⟨some 19, .bin .int .gtr (.t 18) (.c (.int .i64 1000000000000)), (some (16, false)), []⟩,
  ⟨some 20, .pick (.t 16) (.c (.bool true)) (.t 19), none, []⟩,
  ⟨some 21, .mov (.t 20), none, []⟩,
  ⟨some 22, .fa 0 (.t 1), (some (21, false)), []⟩,
  ⟨some 23, .load none (.t 22), (some (21, false)), []⟩,
  ⟨some 24, .bin .int .neq (.t 23) (.c (.int .i64 1)), (some (21, false)), []⟩,
  ⟨some 25, .mov (.t 24), (some (21, false)), []⟩,
  ⟨some 26, .fa 1 (.t 1), (some (25, true)), []⟩,
  ⟨some 27, .load none (.t 26), (some (25, true)), []⟩,
  ⟨some 28, .bin .int .neq (.t 27) (.c (.int .i64 0)), (some (25, true)), []⟩,
  ⟨some 29, .pick (.t 25) (.t 28) (.c (.bool false)), (some (21, false)), []⟩,
  ⟨some 30, .pick (.t 21) (.c (.bool true)) (.t 29), none, []⟩] [] false)
  (.cond (.t 30)
    (.seq (.region [
  ⟨some 2, .mov (.c (.int .i64 1)), none, []⟩] [] false)
    (.ret))
    (.skip)))
  (.seq (.region [
  ⟨some 2, .mov (.c (.int .i64 0)), none, []⟩] [] false)
  (.ret)))
def tf144 : TFunc := { np := 1, nt := 31, res := [.tmp 2], own := false, body := tc144 }
noncomputable def S144 (a0 : Cell) : Option Int :=
  jn (σ := Bool) (α := Int) (br (decide ((Cell.k a0) < (0 : Int)))
  (inlO (some true))
  (br (decide ((2 : Int) < (Cell.k a0)))
  (inlO (some true))
  (br (decide ((Cell.n a0) < (-1000000000000 : Int)))
  (inlO (some true))
  (br (decide ((1000000000000 : Int) < (Cell.n a0)))
  (inlO (some true))
  (br (decide (¬ (Cell.k a0) = (1 : Int)))
  (inlO (some (decide (¬ (Cell.n a0) = (0 : Int)))))
  (inlO (some false))))))) fun x1 =>
  br x1
  (some (1 : Int))
  (some (0 : Int))
theorem s144 (a0 : Cell) : tf144.run [] [(.st .cell)] .int a0 = S144 a0 := by kernel_rfl
noncomputable def P144 (a0 : Cell) : Option Int := S144 a0
noncomputable def k144 : CSpec := ⟨144, [(.st .cell)], .int, fun x => P144 x, false, []⟩
theorem r144 {S : Seat} (h : Ok1 S 144 tf144) : Rt S k144 := fun x y hy =>
  Ok1.sound h (C := []) CSound.nil rfl rfl rfl ((s144 x).trans hy) rfl

/- tallyhall/tallyref1.Of -/
def tc150 : TCode :=
  .seq (.region [
  ⟨some 2, .alloc [.int .i64 0, .int .i64 0], none, []⟩] [] false)
  (.seq (.seq (.regionJ ⟨[.slot 8 .bool], [3, 4, 5, 6, 7], [], []⟩ [
  ⟨some 3, .mov (.t 0), none, []⟩,
  ⟨some 4, .bin .int .lss (.t 3) (.c (.int .i64 (-1000000000000))), none, []⟩,
  ⟨some 5, .mov (.t 4), none, []⟩,
  ⟨some 6, .mov (.t 0), (some (5, false)), []⟩,
  ⟨some 7, .bin .int .gtr (.t 6) (.c (.int .i64 1000000000000)), (some (5, false)), []⟩,
  ⟨some 8, .pick (.t 5) (.c (.bool true)) (.t 7), none, []⟩] [] false)
  (.cond (.t 8)
    (.seq (.region [
  ⟨some 9, .build [.int .i64 0, .int .i64 0] [(0, 1, (.c (.int .i64 2)))], none, []⟩,
  ⟨none, .store 2 (.t 2) (.t 9), none, []⟩] [] false)
    (.ret))
    (.skip)))
  (.seq (.region [
  ⟨some 10, .mov (.t 0), none, []⟩,
  ⟨some 11, .build [.int .i64 0, .int .i64 0] [(0, 1, (.c (.int .i64 1))), (1, 1, (.t 10))], none, []⟩,
  ⟨none, .store 2 (.t 2) (.t 11), none, []⟩] [] false)
  (.ret)))
def tf150 : TFunc := { np := 1, nt := 12, res := [.cell 2 (some 2)], own := false, body := tc150 }
noncomputable def S150 (a0 : Int) : Option Cell :=
  jn (σ := Bool) (α := Cell) (br (decide (a0 < (-1000000000000 : Int)))
  (inlO (some true))
  (inlO (some (decide ((1000000000000 : Int) < a0))))) fun x1 =>
  br x1
  (some (Cell.mk (2 : Int) (0 : Int)))
  (some (Cell.mk (1 : Int) a0))
theorem s150 (a0 : Int) : tf150.run [] [.int] (.st .cell) a0 = S150 a0 := by kernel_rfl
noncomputable def P150 (a0 : Int) : Option Cell := S150 a0
noncomputable def k150 : CSpec := ⟨150, [.int], (.st .cell), fun x => P150 x, false, []⟩
theorem r150 {S : Seat} (h : Ok1 S 150 tf150) : Rt S k150 := fun x y hy =>
  Ok1.sound h (C := []) CSound.nil rfl rfl rfl ((s150 x).trans hy) rfl

/- tallyhall/tallyref1.Digits -/
/- tallyhall/tallyref1.Show -/
/- tallyhall/tallyref1.Plus -/
def tc146 : TCode :=
  .seq (.region [
  ⟨some 3, .box (.t 0), none, []⟩,
  ⟨some 4, .box (.t 1), none, []⟩,
  ⟨some 6, .alloc [.int .i64 0, .int .i64 0], none, []⟩] [] false)
  (.seq (.seq (.regionJ ⟨[.slot 14 .bool], [7, 8, 9, 10, 11, 12, 13], [], []⟩ [
  ⟨some 7, .fa 0 (.t 3), none, []⟩,
  ⟨some 8, .load none (.t 7), none, []⟩,
  ⟨some 9, .bin .int .eql (.t 8) (.c (.int .i64 2)), none, []⟩,
  ⟨some 10, .mov (.t 9), none, []⟩,
  ⟨some 11, .fa 0 (.t 4), (some (10, false)), []⟩,
  ⟨some 12, .load none (.t 11), (some (10, false)), []⟩,
  ⟨some 13, .bin .int .eql (.t 12) (.c (.int .i64 2)), (some (10, false)), []⟩,
  ⟨some 14, .pick (.t 10) (.c (.bool true)) (.t 13), none, []⟩] [] false)
  (.cond (.t 14)
    (.seq (.region [
  ⟨some 15, .build [.int .i64 0, .int .i64 0] [(0, 1, (.c (.int .i64 2)))], none, []⟩,
  ⟨none, .store 2 (.t 6) (.t 15), none, []⟩] [] false)
    (.ret))
    (.skip)))
  (.seq (.seq (.regionJ ⟨[.slot 23 .bool], [16, 17, 18, 19, 20, 21, 22], [], []⟩ [
  ⟨some 16, .fa 0 (.t 3), none, []⟩,
  ⟨some 17, .load none (.t 16), none, []⟩,
  ⟨some 18, .bin .int .eql (.t 17) (.c (.int .i64 0)), none, []⟩,
  ⟨some 19, .mov (.t 18), none, []⟩,
  ⟨some 20, .fa 0 (.t 4), (some (19, true)), []⟩,
  ⟨some 21, .load none (.t 20), (some (19, true)), []⟩,
  ⟨some 22, .bin .int .eql (.t 21) (.c (.int .i64 0)), (some (19, true)), []⟩,
  ⟨some 23, .pick (.t 19) (.t 22) (.c (.bool false)), none, []⟩] [] false)
  (.cond (.t 23)
    (.seq (.region [
  ⟨some 24, .build [.int .i64 0, .int .i64 0] [], none, []⟩,
  ⟨none, .store 2 (.t 6) (.t 24), none, []⟩] [] false)
    (.ret))
    (.skip)))
  (.seq (.region [
  ⟨some 25, .fa 1 (.t 3), none, []⟩,
  ⟨some 26, .load none (.t 25), none, []⟩,
  ⟨some 27, .mov (.t 2), none, []⟩,
  ⟨some 28, .fa 1 (.t 4), none, []⟩,
  ⟨some 29, .load none (.t 28), none, []⟩,
  ⟨some 30, .bin .int .mul (.t 27) (.t 29), none, []⟩,
  ⟨some 31, .bin .int .add (.t 26) (.t 30), none, []⟩,
  ⟨some 32, .call false [] 150 [(.t 31)], none, []⟩,
  ⟨none, .store 2 (.t 6) (.t 32), none, []⟩] [] false)
  (.ret))))
def tf146 : TFunc := { np := 3, nt := 33, res := [.cell 6 (some 2)], own := false, body := tc146 }
noncomputable def S146 (F150 : Int → (Option Cell)) (a0 : Cell) (a1 : Cell) (a2 : Int) : Option Cell :=
  jn (σ := Bool) (α := Cell) (br (decide ((Cell.k a0) = (2 : Int)))
  (inlO (some true))
  (inlO (some (decide ((Cell.k a1) = (2 : Int)))))) fun x1 =>
  br x1
  (some (Cell.mk (2 : Int) (0 : Int)))
  (jn (σ := Bool) (α := Cell) (br (decide ((Cell.k a0) = (0 : Int)))
  (inlO (some (decide ((Cell.k a1) = (0 : Int)))))
  (inlO (some false))) fun x2 =>
  br x2
  (some (Cell.mk (0 : Int) (0 : Int)))
  (bno (F150 (wi ((Cell.n a0) + (wi (a2 * (Cell.n a1)))))) fun y3 =>
  some y3))
theorem s146 (F150 : Int → (Option Cell)) (a0 : Cell) (a1 : Cell) (a2 : Int) : tf146.run [⟨150, [.int], (.st .cell), fun x => F150 x, false, []⟩] [(.st .cell), (.st .cell), .int] (.st .cell) (a0, a1, a2) = S146 F150 a0 a1 a2 := by kernel_rfl
noncomputable def P146 (a0 : Cell) (a1 : Cell) (a2 : Int) : Option Cell := S146 P150 a0 a1 a2
noncomputable def k146 : CSpec := ⟨146, [(.st .cell), (.st .cell), .int], (.st .cell), fun x => P146 x.1 x.2.1 x.2.2, false, []⟩
theorem r146 {S : Seat} (h : Ok1 S 146 tf146) (h150 : Rt S k150) : Rt S k146 := fun x y hy =>
  Ok1.sound h (C := [k150]) (CSound.cons h150 CSound.nil) rfl rfl rfl ((s146 P150 x.1 x.2.1 x.2.2).trans hy) rfl

/- tallyhall/tallyref1.size -/
/- tallyhall/tallyref1.Times -/
/- tallyhall/tallyref1.Over -/
/- tallyhall/tallyref1.Int -/
/- tallyhall/tallyref1.Read -/
end Ab
