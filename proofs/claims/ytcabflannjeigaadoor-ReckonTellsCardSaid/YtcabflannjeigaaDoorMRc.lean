/-
  Functions of the program as typed code, what they come to, and their contracts: written by program (mk.py).
-/
import Derived.Test.YtcabflannjeigaaDoorB2
import Derived.KernelRfl
namespace Ab
open Go
set_option linter.unusedVariables false
set_option maxRecDepth 100000

/- tallyhall/tallyref1.Cell -/
def tc144 : TCode :=
  .seq (.region [
  ⟨some 1, .box (.t 0), none, []⟩,
  ⟨some 2, .mov (.c (.int .i64 0)), none, []⟩] [] false)
  (.seq (.seq (.regionJ ⟨[.slot 30 .bool], [3, 4, 5, 6, 7, 8, 9, 10, 11, 12, 13, 14, 15, 16, 17, 18, 19, 20, 21, 22, 23, 24, 25, 26, 27, 28, 29], [], []⟩ [
  ⟨some 3, .fa 0 (.t 1), none, []⟩,
  ⟨some 4, .load none (.t 3), none, []⟩,
  ⟨some 5, .bin .int .lss (.t 4) (.c (.int .i64 0)), none, []⟩,
  ⟨some 6, .mov (.t 5), none, []⟩,
  ⟨some 7, .fa 0 (.t 1), (some (6, false)), []⟩,
  ⟨some 8, .load none (.t 7), (some (6, false)), []⟩,
  ⟨some 9, .bin .int .gtr (.t 8) (.c (.int .i64 2)), (some (6, false)), []⟩,
  ⟨some 10, .pick (.t 6) (.c (.bool true)) (.t 9), none, []⟩,
  ⟨some 11, .mov (.t 10), none, []⟩,
  ⟨some 12, .fa 1 (.t 1), (some (11, false)), []⟩,
  ⟨some 13, .load none (.t 12), (some (11, false)), []⟩,
  ⟨some 14, .bin .int .lss (.t 13) (.c (.int .i64 (-1000000000000))), (some (11, false)), []⟩,
  ⟨some 15, .pick (.t 11) (.c (.bool true)) (.t 14), none, []⟩,
  ⟨some 16, .mov (.t 15), none, []⟩,
  ⟨some 17, .fa 1 (.t 1), (some (16, false)), []⟩,
  ⟨some 18, .load none (.t 17), (some (16, false)), []⟩,
  ⟨some 19, .bin .int .gtr (.t 18) (.c (.int .i64 1000000000000)), (some (16, false)), []⟩,
  ⟨some 20, .pick (.t 16) (.c (.bool true)) (.t 19), none, []⟩,
  ⟨some 21, .mov (.t 20), none, []⟩,
  ⟨some 22, .fa 0 (.t 1), (some (21, false)), []⟩,
  ⟨some 23, .load none (.t 22), (some (21, false)), []⟩,
  ⟨some 24, .bin .int .neq (.t 23) (.c (.int .i64 1)), (some (21, false)), []⟩,
  ⟨some 25, .mov (.t 24), (some (21, false)), []⟩,
  ⟨some 26, .fa 1 (.t 1), (some (25, true)), []⟩,
  ⟨some 27, .load none (.t 26), (some (25, true)), []⟩,
  ⟨some 28, .bin .int .neq (.t 27) (.c (.int .i64 0)), (some (25, true)), []⟩,
  ⟨some 29, .pick (.t 25) (.t 28) (.c (.bool false)), (some (21, false)), []⟩,
  ⟨some 30, .pick (.t 21) (.c (.bool true)) (.t 29), none, []⟩] [] false)
  (.cond (.t 30)
    (.seq (.region [
  ⟨some 2, .mov (.c (.int .i64 1)), none, []⟩] [] false)
    (.ret))
    (.skip)))
  (.seq (.region [
  ⟨some 2, .mov (.c (.int .i64 0)), none, []⟩] [] false)
  (.ret)))
def tf144 : TFunc := { np := 1, nt := 31, res := [.tmp 2], own := false, body := tc144 }
noncomputable def S144 (a0 : Cell) : Option Int :=
  jn (σ := Bool) (α := Int) (br (decide ((Cell.k a0) < (0 : Int)))
  (inlO (some true))
  (br (decide ((2 : Int) < (Cell.k a0)))
  (inlO (some true))
  (br (decide ((Cell.n a0) < (-1000000000000 : Int)))
  (inlO (some true))
  (br (decide ((1000000000000 : Int) < (Cell.n a0)))
  (inlO (some true))
  (br (decide (¬ (Cell.k a0) = (1 : Int)))
  (inlO (some (decide (¬ (Cell.n a0) = (0 : Int)))))
  (inlO (some false))))))) fun x1 =>
  br x1
  (some (1 : Int))
  (some (0 : Int))
theorem s144 (a0 : Cell) : tf144.run [] [(.st .cell)] .int a0 = S144 a0 := by kernel_rfl
noncomputable def P144 (a0 : Cell) : Option Int := S144 a0
noncomputable def k144 : CSpec := ⟨144, [(.st .cell)], .int, fun x => P144 x, false, []⟩
theorem r144 {S : Seat} (h : Ok1 S 144 tf144) : Rt S k144 := fun x y hy =>
  Ok1.sound h (C := []) CSound.nil rfl rfl rfl ((s144 x).trans hy) rfl

/- tallyhall/tallyref1.Of -/
def tc150 : TCode :=
  .seq (.region [
  ⟨some 2, .alloc [.int .i64 0, .int .i64 0], none, []⟩] [] false)
  (.seq (.seq (.regionJ ⟨[.slot 8 .bool], [3, 4, 5, 6, 7], [], []⟩ [
  ⟨some 3, .mov (.t 0), none, []⟩,
  ⟨some 4, .bin .int .lss (.t 3) (.c (.int .i64 (-1000000000000))), none, []⟩,
  ⟨some 5, .mov (.t 4), none, []⟩,
  ⟨some 6, .mov (.t 0), (some (5, false)), []⟩,
  ⟨some 7, .bin .int .gtr (.t 6) (.c (.int .i64 1000000000000)), (some (5, false)), []⟩,
  ⟨some 8, .pick (.t 5) (.c (.bool true)) (.t 7), none, []⟩] [] false)
  (.cond (.t 8)
    (.seq (.region [
  ⟨some 9, .build [.int .i64 0, .int .i64 0] [(0, 1, (.c (.int .i64 2)))], none, []⟩,
  ⟨none, .store 2 (.t 2) (.t 9), none, []⟩] [] false)
    (.ret))
    (.skip)))
  (.seq (.region [
  ⟨some 10, .mov (.t 0), none, []⟩,
  ⟨some 11, .build [.int .i64 0, .int .i64 0] [(0, 1, (.c (.int .i64 1))), (1, 1, (.t 10))], none, []⟩,
  ⟨none, .store 2 (.t 2) (.t 11), none, []⟩] [] false)
  (.ret)))
def tf150 : TFunc := { np := 1, nt := 12, res := [.cell 2 (some 2)], own := false, body := tc150 }
noncomputable def S150 (a0 : Int) : Option Cell :=
  jn (σ := Bool) (α := Cell) (br (decide (a0 < (-1000000000000 : Int)))
  (inlO (some true))
  (inlO (some (decide ((1000000000000 : Int) < a0))))) fun x1 =>
  br x1
  (some (Cell.mk (2 : Int) (0 : Int)))
  (some (Cell.mk (1 : Int) a0))
theorem s150 (a0 : Int) : tf150.run [] [.int] (.st .cell) a0 = S150 a0 := by kernel_rfl
noncomputable def P150 (a0 : Int) : Option Cell := S150 a0
noncomputable def k150 : CSpec := ⟨150, [.int], (.st .cell), fun x => P150 x, false, []⟩
theorem r150 {S : Seat} (h : Ok1 S 150 tf150) : Rt S k150 := fun x y hy =>
  Ok1.sound h (C := []) CSound.nil rfl rfl rfl ((s150 x).trans hy) rfl

/- tallyhall/tallyref1.Digits -/
/- tallyhall/tallyref1.Show -/
/- tallyhall/tallyref1.Plus -/
def tc146 : TCode :=
  .seq (.region [
  ⟨some 3, .box (.t 0), none, []⟩,
  ⟨some 4, .box (.t 1), none, []⟩,
  ⟨some 6, .alloc [.int .i64 0, .int .i64 0], none, []⟩] [] false)
  (.seq (.seq (.regionJ ⟨[.slot 14 .bool], [7, 8, 9, 10, 11, 12, 13], [], []⟩ [
  ⟨some 7, .fa 0 (.t 3), none, []⟩,
  ⟨some 8, .load none (.t 7), none, []⟩,
  ⟨some 9, .bin .int .eql (.t 8) (.c (.int .i64 2)), none, []⟩,
  ⟨some 10, .mov (.t 9), none, []⟩,
  ⟨some 11, .fa 0 (.t 4), (some (10, false)), []⟩,
  ⟨some 12, .load none (.t 11), (some (10, false)), []⟩,
  ⟨some 13, .bin .int .eql (.t 12) (.c (.int .i64 2)), (some (10, false)), []⟩,
  ⟨some 14, .pick (.t 10) (.c (.bool true)) (.t 13), none, []⟩] [] false)
  (.cond (.t 14)
    (.seq (.region [
  ⟨some 15, .build [.int .i64 0, .int .i64 0] [(0, 1, (.c (.int .i64 2)))], none, []⟩,
  ⟨none, .store 2 (.t 6) (.t 15), none, []⟩] [] false)
    (.ret))
    (.skip)))
  (.seq (.seq (.regionJ ⟨[.slot 23 .bool], [16, 17, 18, 19, 20, 21, 22], [], []⟩ [
  ⟨some 16, .fa 0 (.t 3), none, []⟩,
  ⟨some 17, .load none (.t 16), none, []⟩,
  ⟨some 18, .bin .int .eql (.t 17) (.c (.int .i64 0)), none, []⟩,
  ⟨some 19, .mov (.t 18), none, []⟩,
  ⟨some 20, .fa 0 (.t 4), (some (19, true)), []⟩,
  ⟨some 21, .load none (.t 20), (some (19, true)), []⟩,
  ⟨some 22, .bin .int .eql (.t 21) (.c (.int .i64 0)), (some (19, true)), []⟩,
  ⟨some 23, .pick (.t 19) (.t 22) (.c (.bool false)), none, []⟩] [] false)
  (.cond (.t 23)
    (.seq (.region [
  ⟨some 24, .build [.int .i64 0, .int .i64 0] [], none, []⟩,
  ⟨none, .store 2 (.t 6) (.t 24), none, []⟩] [] false)
    (.ret))
    (.skip)))
  (.seq (.region [
  ⟨some 25, .fa 1 (.t 3), none, []⟩,
  ⟨some 26, .load none (.t 25), none, []⟩,
  ⟨some 27, .mov (.t 2), none, []⟩,
  ⟨some 28, .fa 1 (.t 4), none, []⟩,
  ⟨some 29, .load none (.t 28), none, []⟩,
  ⟨some 30, .bin .int .mul (.t 27) (.t 29), none, []⟩,
  ⟨some 31, .bin .int .add (.t 26) (.t 30), none, []⟩,
  ⟨some 32, .call false [] 150 [(.t 31)], none, []⟩,
  ⟨none, .store 2 (.t 6) (.t 32), none, []⟩] [] false)
  (.ret))))
def tf146 : TFunc := { np := 3, nt := 33, res := [.cell 6 (some 2)], own := false, body := tc146 }
noncomputable def S146 (F150 : Int → (Option Cell)) (a0 : Cell) (a1 : Cell) (a2 : Int) : Option Cell :=
  jn (σ := Bool) (α := Cell) (br (decide ((Cell.k a0) = (2 : Int)))
  (inlO (some true))
  (inlO (some (decide ((Cell.k a1) = (2 : Int)))))) fun x1 =>
  br x1
  (some (Cell.mk (2 : Int) (0 : Int)))
  (jn (σ := Bool) (α := Cell) (br (decide ((Cell.k a0) = (0 : Int)))
  (inlO (some (decide ((Cell.k a1) = (0 : Int)))))
  (inlO (some false))) fun x2 =>
  br x2
  (some (Cell.mk (0 : Int) (0 : Int)))
  (bno (F150 (wi ((Cell.n a0) + (wi (a2 * (Cell.n a1)))))) fun y3 =>
  some y3))
theorem s146 (F150 : Int → (Option Cell)) (a0 : Cell) (a1 : Cell) (a2 : Int) : tf146.run [⟨150, [.int], (.st .cell), fun x => F150 x, false, []⟩] [(.st .cell), (.st .cell), .int] (.st .cell) (a0, a1, a2) = S146 F150 a0 a1 a2 := by kernel_rfl
noncomputable def P146 (a0 : Cell) (a1 : Cell) (a2 : Int) : Option Cell := S146 P150 a0 a1 a2
noncomputable def k146 : CSpec := ⟨146, [(.st .cell), (.st .cell), .int], (.st .cell), fun x => P146 x.1 x.2.1 x.2.2, false, []⟩
theorem r146 {S : Seat} (h : Ok1 S 146 tf146) (h150 : Rt S k150) : Rt S k146 := fun x y hy =>
  Ok1.sound h (C := [k150]) (CSound.cons h150 CSound.nil) rfl rfl rfl ((s146 P150 x.1 x.2.1 x.2.2).trans hy) rfl

/- tallyhall/tallyref1.size -/
def tc160 : TCode :=
  .seq (.region [
  ⟨some 2, .mov (.c (.int .i64 0)), none, []⟩] [] false)
  (.seq (.seq (.region [
  ⟨some 3, .mov (.t 0), none, []⟩,
  ⟨some 4, .bin .int .lss (.t 3) (.c (.int .i64 0)), none, []⟩] [] false)
  (.cond (.t 4)
    (.seq (.region [
  ⟨some 5, .mov (.t 0), none, []⟩,
  ⟨some 6, .un .neg (.t 5), none, []⟩,
  ⟨some 2, .mov (.t 6), none, []⟩] [] false)
    (.ret))
    (.skip)))
  (.seq (.region [
  ⟨some 7, .mov (.t 0), none, []⟩,
  ⟨some 2, .mov (.t 7), none, []⟩] [] false)
  (.ret)))
def tf160 : TFunc := { np := 1, nt := 8, res := [.tmp 2], own := false, body := tc160 }
noncomputable def S160 (a0 : Int) : Option Int :=
  br (decide (a0 < (0 : Int)))
  (some (wi (0 - a0)))
  (some a0)
theorem s160 (a0 : Int) : tf160.run [] [.int] .int a0 = S160 a0 := by kernel_rfl
noncomputable def P160 (a0 : Int) : Option Int := S160 a0
noncomputable def k160 : CSpec := ⟨160, [.int], .int, fun x => P160 x, false, []⟩
theorem r160 {S : Seat} (h : Ok1 S 160 tf160) : Rt S k160 := fun x y hy =>
  Ok1.sound h (C := []) CSound.nil rfl rfl rfl ((s160 x).trans hy) rfl

/- tallyhall/tallyref1.Times -/
def tc147 : TCode :=
  .seq (.region [
  ⟨some 2, .box (.t 0), none, []⟩,
  ⟨some 3, .box (.t 1), none, []⟩,
  ⟨some 4, .alloc [.int .i64 0, .int .i64 0], none, []⟩] [] false)
  (.seq (.seq (.regionJ ⟨[.slot 14 .bool], [7, 8, 9, 10, 11, 12, 13], [], []⟩ [
  ⟨some 7, .fa 0 (.t 2), none, []⟩,
  ⟨some 8, .load none (.t 7), none, []⟩,
  ⟨some 9, .bin .int .eql (.t 8) (.c (.int .i64 2)), none, []⟩,
  ⟨some 10, .mov (.t 9), none, []⟩,
  ⟨some 11, .fa 0 (.t 3), (some (10, false)), []⟩,
  ⟨some 12, .load none (.t 11), (some (10, false)), []⟩,
  ⟨some 13, .bin .int .eql (.t 12) (.c (.int .i64 2)), (some (10, false)), []⟩,
  ⟨some 14, .pick (.t 10) (.c (.bool true)) (.t 13), none, []⟩] [] false)
  (.cond (.t 14)
    (.seq (.region [
  ⟨some 15, .build [.int .i64 0, .int .i64 0] [(0, 1, (.c (.int .i64 2)))], none, []⟩,
  ⟨none, .store 2 (.t 4) (.t 15), none, []⟩] [] false)
    (.ret))
    (.skip)))
  (.seq (.seq (.regionJ ⟨[.slot 23 .bool], [16, 17, 18, 19, 20, 21, 22], [], []⟩ [
  ⟨some 16, .fa 0 (.t 2), none, []⟩,
  ⟨some 17, .load none (.t 16), none, []⟩,
  ⟨some 18, .bin .int .eql (.t 17) (.c (.int .i64 0)), none, []⟩,
  ⟨some 19, .mov (.t 18), none, []⟩,
  ⟨some 20, .fa 0 (.t 3), (some (19, false)), []⟩,
  ⟨some 21, .load none (.t 20), (some (19, false)), []⟩,
  ⟨some 22, .bin .int .eql (.t 21) (.c (.int .i64 0)), (some (19, false)), []⟩,
  ⟨some 23, .pick (.t 19) (.c (.bool true)) (.t 22), none, []⟩] [] false)
  (.cond (.t 23)
    (.seq (.region [
  ⟨some 24, .build [.int .i64 0, .int .i64 0] [], none, []⟩,
  ⟨none, .store 2 (.t 4) (.t 24), none, []⟩] [] false)
    (.ret))
    (.skip)))
  (.seq (.region [
  ⟨some 25, .fa 1 (.t 2), none, []⟩,
  ⟨some 26, .load none (.t 25), none, []⟩,
  ⟨some 27, .call false [] 160 [(.t 26)], none, []⟩,
  ⟨some 5, .mov (.t 27), none, []⟩] [] false)
  (.seq (.region [
  ⟨some 28, .fa 1 (.t 3), none, []⟩,
  ⟨some 29, .load none (.t 28), none, []⟩,
  ⟨some 30, .call false [] 160 [(.t 29)], none, []⟩,
  ⟨some 6, .mov (.t 30), none, []⟩] [] false)
  (.seq (.seq (.regionJ ⟨[.slot 38 .bool], [31, 32, 33, 34, 35, 36, 37], [], []⟩ [
  ⟨some 31, .mov (.t 5), none, []⟩,
  ⟨some 32, .bin .int .gtr (.t 31) (.c (.int .i64 0)), none, []⟩,
  ⟨some 33, .mov (.t 32), none, []⟩,
  ⟨some 34, .mov (.t 6), (some (33, true)), []⟩,
  ⟨some 35, .mov (.t 5), (some (33, true)), []⟩,
  ⟨some 36, .bin .int .quo (.c (.int .i64 1000000000000)) (.t 35), (some (33, true)), []⟩,
  ⟨some 37, .bin .int .gtr (.t 34) (.t 36), (some (33, true)), []⟩,
  ⟨some 38, .pick (.t 33) (.t 37) (.c (.bool false)), none, []⟩] [] false)
  (.cond (.t 38)
    (.seq (.region [
  ⟨some 39, .build [.int .i64 0, .int .i64 0] [(0, 1, (.c (.int .i64 2)))], none, []⟩,
  ⟨none, .store 2 (.t 4) (.t 39), none, []⟩] [] false)
    (.ret))
    (.skip)))
  (.seq (.region [
  ⟨some 40, .fa 1 (.t 2), none, []⟩,
  ⟨some 41, .load none (.t 40), none, []⟩,
  ⟨some 42, .fa 1 (.t 3), none, []⟩,
  ⟨some 43, .load none (.t 42), none, []⟩,
  ⟨some 44, .bin .int .mul (.t 41) (.t 43), none, []⟩,
  ⟨some 45, .call false [] 150 [(.t 44)], none, []⟩,
  ⟨none, .store 2 (.t 4) (.t 45), none, []⟩] [] false)
  (.ret)))))))
def tf147 : TFunc := { np := 2, nt := 46, res := [.cell 4 (some 2)], own := false, body := tc147 }
noncomputable def S147 (F150 : Int → (Option Cell)) (F160 : Int → (Option Int)) (a0 : Cell) (a1 : Cell) : Option Cell :=
  jn (σ := Bool) (α := Cell) (br (decide ((Cell.k a0) = (2 : Int)))
  (inlO (some true))
  (inlO (some (decide ((Cell.k a1) = (2 : Int)))))) fun x1 =>
  br x1
  (some (Cell.mk (2 : Int) (0 : Int)))
  (jn (σ := Bool) (α := Cell) (br (decide ((Cell.k a0) = (0 : Int)))
  (inlO (some true))
  (inlO (some (decide ((Cell.k a1) = (0 : Int)))))) fun x2 =>
  br x2
  (some (Cell.mk (0 : Int) (0 : Int)))
  (bno (F160 (Cell.n a0)) fun y3 =>
  bno (F160 (Cell.n a1)) fun y4 =>
  jn (σ := Bool) (α := Cell) (br (decide ((0 : Int) < y3))
  (ck (decide (¬ y3 = 0)) <|
  inlO (some (decide ((wi (Int.tdiv (1000000000000 : Int) y3)) < y4))))
  (inlO (some false))) fun x5 =>
  br x5
  (some (Cell.mk (2 : Int) (0 : Int)))
  (bno (F150 (wi ((Cell.n a0) * (Cell.n a1)))) fun y6 =>
  some y6)))
theorem s147 (F150 : Int → (Option Cell)) (F160 : Int → (Option Int)) (a0 : Cell) (a1 : Cell) : tf147.run [⟨150, [.int], (.st .cell), fun x => F150 x, false, []⟩,
  ⟨160, [.int], .int, fun x => F160 x, false, []⟩] [(.st .cell), (.st .cell)] (.st .cell) (a0, a1) = S147 F150 F160 a0 a1 := by kernel_rfl
noncomputable def P147 (a0 : Cell) (a1 : Cell) : Option Cell := S147 P150 P160 a0 a1
noncomputable def k147 : CSpec := ⟨147, [(.st .cell), (.st .cell)], (.st .cell), fun x => P147 x.1 x.2, false, []⟩
theorem r147 {S : Seat} (h : Ok1 S 147 tf147) (h150 : Rt S k150) (h160 : Rt S k160) : Rt S k147 := fun x y hy =>
  Ok1.sound h (C := [k150, k160]) (CSound.cons h150 (CSound.cons h160 CSound.nil)) rfl rfl rfl ((s147 P150 P160 x.1 x.2).trans hy) rfl

/- tallyhall/tallyref1.Over -/
def tc148 : TCode :=
  .seq (.region [
  ⟨some 2, .box (.t 0), none, []⟩,
  ⟨some 3, .box (.t 1), none, []⟩,
  ⟨some 4, .alloc [.int .i64 0, .int .i64 0], none, []⟩] [] false)
  (.seq (.seq (.regionJ ⟨[.slot 13 .bool], [6, 7, 8, 9, 10, 11, 12], [], []⟩ [
  ⟨some 6, .fa 0 (.t 2), none, []⟩,
  ⟨some 7, .load none (.t 6), none, []⟩,
  ⟨some 8, .bin .int .eql (.t 7) (.c (.int .i64 2)), none, []⟩,
  ⟨some 9, .mov (.t 8), none, []⟩,
  ⟨some 10, .fa 0 (.t 3), (some (9, false)), []⟩,
  ⟨some 11, .load none (.t 10), (some (9, false)), []⟩,
  ⟨some 12, .bin .int .eql (.t 11) (.c (.int .i64 2)), (some (9, false)), []⟩,
  ⟨some 13, .pick (.t 9) (.c (.bool true)) (.t 12), none, []⟩] [] false)
  (.cond (.t 13)
    (.seq (.region [
  ⟨some 14, .build [.int .i64 0, .int .i64 0] [(0, 1, (.c (.int .i64 2)))], none, []⟩,
  ⟨none, .store 2 (.t 4) (.t 14), none, []⟩] [] false)
    (.ret))
    (.skip)))
  (.seq (.seq (.regionJ ⟨[.slot 22 .bool], [15, 16, 17, 18, 19, 20, 21], [], []⟩ [
  ⟨some 15, .fa 0 (.t 2), none, []⟩,
  ⟨some 16, .load none (.t 15), none, []⟩,
  ⟨some 17, .bin .int .eql (.t 16) (.c (.int .i64 0)), none, []⟩,
  ⟨some 18, .mov (.t 17), none, []⟩,
  ⟨some 19, .fa 0 (.t 3), (some (18, false)), []⟩,
  ⟨some 20, .load none (.t 19), (some (18, false)), []⟩,
  ⟨some 21, .bin .int .eql (.t 20) (.c (.int .i64 0)), (some (18, false)), []⟩,
  ⟨some 22, .pick (.t 18) (.c (.bool true)) (.t 21), none, []⟩] [] false)
  (.cond (.t 22)
    (.seq (.region [
  ⟨some 23, .build [.int .i64 0, .int .i64 0] [], none, []⟩,
  ⟨none, .store 2 (.t 4) (.t 23), none, []⟩] [] false)
    (.ret))
    (.skip)))
  (.seq (.seq (.region [
  ⟨some 24, .fa 1 (.t 3), none, []⟩,
  ⟨some 25, .load none (.t 24), none, []⟩,
  ⟨some 26, .bin .int .eql (.t 25) (.c (.int .i64 0)), none, []⟩] [] false)
  (.cond (.t 26)
    (.seq (.region [
  ⟨some 27, .build [.int .i64 0, .int .i64 0] [(0, 1, (.c (.int .i64 2)))], none, []⟩,
  ⟨none, .store 2 (.t 4) (.t 27), none, []⟩] [] false)
    (.ret))
    (.skip)))
  (.seq (.region [
  ⟨some 28, .fa 1 (.t 2), none, []⟩,
  ⟨some 29, .load none (.t 28), none, [0]⟩,
  ⟨some 30, .call false [] 160 [(.t 29)], none, [1]⟩,
  ⟨some 31, .fa 1 (.t 3), none, []⟩,
  ⟨some 32, .load none (.t 31), none, [3]⟩,
  ⟨some 33, .call false [] 160 [(.t 32)], none, [4, 2]⟩,
  ⟨some 34, .bin .int .quo (.t 30) (.t 33), none, [2, 5]⟩,
  ⟨some 5, .mov (.t 34), none, [6, 5, 0, 1, 2, 3, 4, 5, 6]⟩] [] true)
  (.seq (.seq (.region [
  ⟨some 35, .fa 1 (.t 2), none, []⟩,
  ⟨some 36, .load none (.t 35), none, []⟩,
  ⟨some 37, .bin .int .lss (.t 36) (.c (.int .i64 0)), none, []⟩,
  ⟨some 38, .fa 1 (.t 3), none, []⟩,
  ⟨some 39, .load none (.t 38), none, []⟩,
  ⟨some 40, .bin .int .lss (.t 39) (.c (.int .i64 0)), none, []⟩,
  ⟨some 41, .bin .bool .neq (.t 37) (.t 40), none, []⟩] [] false)
  (.condJ ⟨[.slot 5 .int], [42, 43], [], []⟩ (.t 41)
    (.region [
  ⟨some 42, .mov (.t 5), none, []⟩,
  ⟨some 43, .un .neg (.t 42), none, []⟩,
  ⟨some 5, .mov (.t 43), none, []⟩] [] false)
    (.skip)))
  (.seq (.region [
  ⟨some 44, .mov (.t 5), none, []⟩,
  ⟨some 45, .call false [] 150 [(.t 44)], none, []⟩,
  ⟨none, .store 2 (.t 4) (.t 45), none, []⟩] [] false)
  (.ret)))))))
def tf148 : TFunc := { np := 2, nt := 46, res := [.cell 4 (some 2)], own := false, body := tc148 }
noncomputable def S148 (F150 : Int → (Option Cell)) (F160 : Int → (Option Int)) (a0 : Cell) (a1 : Cell) : Option Cell :=
  jn (σ := Bool) (α := Cell) (br (decide ((Cell.k a0) = (2 : Int)))
  (inlO (some true))
  (inlO (some (decide ((Cell.k a1) = (2 : Int)))))) fun x1 =>
  br x1
  (some (Cell.mk (2 : Int) (0 : Int)))
  (jn (σ := Bool) (α := Cell) (br (decide ((Cell.k a0) = (0 : Int)))
  (inlO (some true))
  (inlO (some (decide ((Cell.k a1) = (0 : Int)))))) fun x2 =>
  br x2
  (some (Cell.mk (0 : Int) (0 : Int)))
  (br (decide ((Cell.n a1) = (0 : Int)))
  (some (Cell.mk (2 : Int) (0 : Int)))
  (bno (F160 (Cell.n a0)) fun y3 =>
  bno (F160 (Cell.n a1)) fun y4 =>
  ck (decide (¬ y4 = 0)) <|
  jn (σ := Int) (α := Cell) (br (decide (¬ (decide ((Cell.n a0) < (0 : Int))) = (decide ((Cell.n a1) < (0 : Int)))))
  (inlO (some (wi (0 - (wi (Int.tdiv y3 y4))))))
  (inlO (some (wi (Int.tdiv y3 y4))))) fun x5 =>
  bno (F150 x5) fun y6 =>
  some y6)))
theorem s148 (F150 : Int → (Option Cell)) (F160 : Int → (Option Int)) (a0 : Cell) (a1 : Cell) : tf148.run [⟨150, [.int], (.st .cell), fun x => F150 x, false, []⟩,
  ⟨160, [.int], .int, fun x => F160 x, false, []⟩] [(.st .cell), (.st .cell)] (.st .cell) (a0, a1) = S148 F150 F160 a0 a1 := by kernel_rfl
noncomputable def P148 (a0 : Cell) (a1 : Cell) : Option Cell := S148 P150 P160 a0 a1
noncomputable def k148 : CSpec := ⟨148, [(.st .cell), (.st .cell)], (.st .cell), fun x => P148 x.1 x.2, false, []⟩
theorem r148 {S : Seat} (h : Ok1 S 148 tf148) (h150 : Rt S k150) (h160 : Rt S k160) : Rt S k148 := fun x y hy =>
  Ok1.sound h (C := [k150, k160]) (CSound.cons h150 (CSound.cons h160 CSound.nil)) rfl rfl rfl ((s148 P150 P160 x.1 x.2).trans hy) rfl

/- tallyhall/tallyref1.Int -/
/- tallyhall/tallyref1.Read -/
end Ab
