/-
  Functions of the program as typed code, what they come to, and their contracts: written by program (mk.py).
-/
import Derived.Test.YtcabflannjeigaaDoorB2
import Derived.KernelRfl
namespace Ab
open Go
set_option linter.unusedVariables false
set_option maxRecDepth 100000

/- tallyhall/cell.within -/
def tc30 : TCode :=
  .seq (.region [
  ⟨some 2, .mov (.c (.bool false)), none, []⟩] [] false)
  (.seq (.regionJ ⟨[.slot 2 .bool], [3, 4, 5, 6, 7, 8], [], []⟩ [
  ⟨some 3, .mov (.t 0), none, []⟩,
  ⟨some 4, .bin .int .geq (.t 3) (.c (.int .i64 (-1000000000000))), none, []⟩,
  ⟨some 5, .mov (.t 4), none, []⟩,
  ⟨some 6, .mov (.t 0), (some (5, true)), []⟩,
  ⟨some 7, .bin .int .leq (.t 6) (.c (.int .i64 1000000000000)), (some (5, true)), []⟩,
  ⟨some 8, .pick (.t 5) (.t 7) (.c (.bool false)), none, []⟩,
  ⟨some 2, .mov (.t 8), none, []⟩] [] false)
  (.ret))
def tf30 : TFunc := { np := 1, nt := 9, res := [.tmp 2], own := false, body := tc30 }
noncomputable def S30 (a0 : Int) : Option Bool :=
  jn (σ := Bool) (α := Bool) (br (decide ((-1000000000000 : Int) ≤ a0))
  (inlO (some (decide (a0 ≤ (1000000000000 : Int)))))
  (inlO (some false))) fun x1 =>
  some x1
theorem s30 (a0 : Int) : tf30.run [] [.int] .bool a0 = S30 a0 := by kernel_rfl
noncomputable def P30 (a0 : Int) : Option Bool := S30 a0
noncomputable def k30 : CSpec := ⟨30, [.int], .bool, fun x => P30 x, false, []⟩
theorem r30 {S : Seat} (h : Ok1 S 30 tf30) : Rt S k30 := fun x y hy =>
  Ok1.sound h (C := []) CSound.nil rfl rfl rfl ((s30 x).trans hy) rfl

/- tallyhall/cell.Of -/
def tc8 : TCode :=
  .seq (.region [
  ⟨some 2, .alloc [.int .i64 0, .int .i64 0], none, []⟩] [] false)
  (.seq (.seq (.region [
  ⟨some 3, .mov (.t 0), none, []⟩,
  ⟨some 4, .call false [] 30 [(.t 3)], none, []⟩,
  ⟨some 5, .un .not (.t 4), none, []⟩] [] false)
  (.cond (.t 5)
    (.seq (.region [
  ⟨some 6, .build [.int .i64 0, .int .i64 0] [(0, 1, (.c (.int .i64 2)))], none, []⟩,
  ⟨none, .store 2 (.t 2) (.t 6), none, []⟩] [] false)
    (.ret))
    (.skip)))
  (.seq (.region [
  ⟨some 7, .mov (.t 0), none, []⟩,
  ⟨some 8, .build [.int .i64 0, .int .i64 0] [(0, 1, (.c (.int .i64 1))), (1, 1, (.t 7))], none, []⟩,
  ⟨none, .store 2 (.t 2) (.t 8), none, []⟩] [] false)
  (.ret)))
def tf8 : TFunc := { np := 1, nt := 9, res := [.cell 2 (some 2)], own := false, body := tc8 }
noncomputable def S8 (F30 : Int → (Option Bool)) (a0 : Int) : Option Cell :=
  bno (F30 a0) fun y1 =>
  br (!y1)
  (some (Cell.mk (2 : Int) (0 : Int)))
  (some (Cell.mk (1 : Int) a0))
theorem s8 (F30 : Int → (Option Bool)) (a0 : Int) : tf8.run [⟨30, [.int], .bool, fun x => F30 x, false, []⟩] [.int] (.st .cell) a0 = S8 F30 a0 := by kernel_rfl
noncomputable def P8 (a0 : Int) : Option Cell := S8 P30 a0
noncomputable def k8 : CSpec := ⟨8, [.int], (.st .cell), fun x => P8 x, false, []⟩
theorem r8 {S : Seat} (h : Ok1 S 8 tf8) (h30 : Rt S k30) : Rt S k8 := fun x y hy =>
  Ok1.sound h (C := [k30]) (CSound.cons h30 CSound.nil) rfl rfl rfl ((s8 P30 x).trans hy) rfl

/- tallyhall/cell.Plus -/
def tc33 : TCode :=
  .seq (.region [
  ⟨some 3, .box (.t 0), none, []⟩,
  ⟨some 4, .box (.t 1), none, []⟩,
  ⟨some 6, .alloc [.int .i64 0, .int .i64 0], none, []⟩] [] false)
  (.seq (.block 0 (.seq (.regionJ ⟨[.slot 7 .bool], [8, 9, 10, 11, 12, 13, 14, 15], [], []⟩ [
  ⟨some 8, .fa 0 (.t 3), none, []⟩,
  ⟨some 9, .load none (.t 8), none, []⟩,
  ⟨some 10, .bin .int .eql (.t 9) (.c (.int .i64 2)), none, []⟩,
  ⟨some 11, .mov (.t 10), none, []⟩,
  ⟨some 12, .fa 0 (.t 4), (some (11, false)), []⟩,
  ⟨some 13, .load none (.t 12), (some (11, false)), []⟩,
  ⟨some 14, .bin .int .eql (.t 13) (.c (.int .i64 2)), (some (11, false)), []⟩,
  ⟨some 15, .pick (.t 11) (.c (.bool true)) (.t 14), none, []⟩,
  ⟨some 7, .mov (.t 15), none, []⟩] [] false)
    (.cond (.t 7)
      (.seq (.region [
  ⟨some 16, .build [.int .i64 0, .int .i64 0] [(0, 1, (.c (.int .i64 2)))], none, []⟩,
  ⟨none, .store 2 (.t 6) (.t 16), none, []⟩] [] false)
      (.ret))
      (.seq (.regionJ ⟨[.slot 17 .bool], [18, 19, 20, 21, 22, 23, 24, 25], [], []⟩ [
  ⟨some 18, .fa 0 (.t 3), none, []⟩,
  ⟨some 19, .load none (.t 18), none, []⟩,
  ⟨some 20, .bin .int .eql (.t 19) (.c (.int .i64 0)), none, []⟩,
  ⟨some 21, .mov (.t 20), none, []⟩,
  ⟨some 22, .fa 0 (.t 4), (some (21, true)), []⟩,
  ⟨some 23, .load none (.t 22), (some (21, true)), []⟩,
  ⟨some 24, .bin .int .eql (.t 23) (.c (.int .i64 0)), (some (21, true)), []⟩,
  ⟨some 25, .pick (.t 21) (.t 24) (.c (.bool false)), none, []⟩,
  ⟨some 17, .mov (.t 25), none, []⟩] [] false)
      (.cond (.t 17)
        (.seq (.region [
  ⟨some 26, .build [.int .i64 0, .int .i64 0] [], none, []⟩,
  ⟨none, .store 2 (.t 6) (.t 26), none, []⟩] [] false)
        (.ret))
        (.skip))))))
  (.seq (.region [
  ⟨some 27, .fa 1 (.t 3), none, []⟩,
  ⟨some 28, .load none (.t 27), none, []⟩,
  ⟨some 29, .mov (.t 2), none, []⟩,
  ⟨some 30, .fa 1 (.t 4), none, []⟩,
  ⟨some 31, .load none (.t 30), none, []⟩,
  ⟨some 32, .bin .int .mul (.t 29) (.t 31), none, []⟩,
  ⟨some 33, .bin .int .add (.t 28) (.t 32), none, []⟩,
  ⟨some 34, .call false [] 8 [(.t 33)], none, []⟩,
  ⟨none, .store 2 (.t 6) (.t 34), none, []⟩] [] false)
  (.ret)))
def tf33 : TFunc := { np := 3, nt := 35, res := [.cell 6 (some 2)], own := false, body := tc33 }
noncomputable def S33 (F8 : Int → (Option Cell)) (a0 : Cell) (a1 : Cell) (a2 : Int) : Option Cell :=
  jn (σ := Bool) (α := Cell) (br (decide ((Cell.k a0) = (2 : Int)))
  (inlO (some true))
  (inlO (some (decide ((Cell.k a1) = (2 : Int)))))) fun x1 =>
  br x1
  (some (Cell.mk (2 : Int) (0 : Int)))
  (jn (σ := Bool) (α := Cell) (br (decide ((Cell.k a0) = (0 : Int)))
  (inlO (some (decide ((Cell.k a1) = (0 : Int)))))
  (inlO (some false))) fun x2 =>
  br x2
  (some (Cell.mk (0 : Int) (0 : Int)))
  (bno (F8 (wi ((Cell.n a0) + (wi (a2 * (Cell.n a1)))))) fun y3 =>
  some y3))
theorem s33 (F8 : Int → (Option Cell)) (a0 : Cell) (a1 : Cell) (a2 : Int) : tf33.run [⟨8, [.int], (.st .cell), fun x => F8 x, false, []⟩] [(.st .cell), (.st .cell), .int] (.st .cell) (a0, a1, a2) = S33 F8 a0 a1 a2 := by kernel_rfl
noncomputable def P33 (a0 : Cell) (a1 : Cell) (a2 : Int) : Option Cell := S33 P8 a0 a1 a2
noncomputable def k33 : CSpec := ⟨33, [(.st .cell), (.st .cell), .int], (.st .cell), fun x => P33 x.1 x.2.1 x.2.2, false, []⟩
theorem r33 {S : Seat} (h : Ok1 S 33 tf33) (h8 : Rt S k8) : Rt S k33 := fun x y hy =>
  Ok1.sound h (C := [k8]) (CSound.cons h8 CSound.nil) rfl rfl rfl ((s33 P8 x.1 x.2.1 x.2.2).trans hy) rfl

/- tallyhall/cell.Add$1 -/
noncomputable def S32 (F33 : Cell → Cell → Int → (Option Cell)) (a0 : Cell) (a1 : Cell) : Option Cell :=
  bno (F33 a0 a1 (1 : Int)) fun y1 =>
  some y1
noncomputable def P32 (a0 : Cell) (a1 : Cell) : Option Cell := S32 P33 a0 a1
/- tallyhall/cell.Check -/
def tc52 : TCode :=
  .seq (.region [
  ⟨some 1, .box (.t 0), none, []⟩,
  ⟨some 2, .mov (.c (.nilIface)), none, []⟩] [] false)
  (.seq (.seq (.regionJ ⟨[.slot 26 .bool], [3, 4, 5, 6, 7, 8, 9, 10, 11, 12, 13, 14, 15, 16, 17, 18, 19, 20, 21, 22, 23, 24, 25], [], []⟩ [
  ⟨some 3, .fa 0 (.t 1), none, []⟩,
  ⟨some 4, .load none (.t 3), none, []⟩,
  ⟨some 5, .bin .int .lss (.t 4) (.c (.int .i64 0)), none, []⟩,
  ⟨some 6, .mov (.t 5), none, []⟩,
  ⟨some 7, .fa 0 (.t 1), (some (6, false)), []⟩,
  ⟨some 8, .load none (.t 7), (some (6, false)), []⟩,
  ⟨some 9, .bin .int .gtr (.t 8) (.c (.int .i64 2)), (some (6, false)), []⟩,
  ⟨some 10, .pick (.t 6) (.c (.bool true)) (.t 9), none, []⟩,
  ⟨some 11, .mov (.t 10), none, []⟩,
  ⟨some 12, .fa 1 (.t 1), (some (11, false)), []⟩,
  ⟨some 13, .load none (.t 12), (some (11, false)), []⟩,
  ⟨some 14, .call false [] 30 [(.t 13)], (some (11, false)), []⟩,
  ⟨some 15, .un .not (.t 14), (some (11, false)), []⟩,
  ⟨some 16, .pick (.t 11) (.c (.bool true)) (.t 15), none, []⟩,
  ⟨some 17, .mov (.t 16), none, []⟩,
  ⟨some 18, .fa 0 (.t 1), (some (17, false)), []⟩,
  ⟨some 19, .load none (.t 18), (some (17, false)), []⟩,
  ⟨some 20, .bin .int .neq (.t 19) (.c (.int .i64 1)), (some (17, false)), []⟩,
  ⟨some 21, .mov (.t 20), (some (17, false)), []⟩,
  ⟨some 22, .fa 1 (.t 1), (some (21, true)), []⟩,
  ⟨some 23, .load none (.t 22), (some (21, true)), []⟩,
  ⟨some 24, .bin .int .neq (.t 23) (.c (.int .i64 0)), (some (21, true)), []⟩,
  ⟨some 25, .pick (.t 21) (.t 24) (.c (.bool false)), (some (17, false)), []⟩,
  ⟨some 26, .pick (.t 17) (.c (.bool true)) (.t 25), none, []⟩] [] false)
  (.cond (.t 26)
    (.seq (.region [
  ⟨some 27, .ifc 1 (.c (.int .i64 1)), none, []⟩,
  ⟨some 2, .mov (.t 27), none, []⟩] [] false)
    (.ret))
    (.skip)))
  (.seq (.region [
  ⟨some 2, .mov (.c (.nilIface)), none, []⟩] [] false)
  (.ret)))
def tf52 : TFunc := { np := 1, nt := 28, res := [.tmp 2], own := false, body := tc52 }
noncomputable def S52 (F30 : Int → (Option Bool)) (a0 : Cell) : Option Err :=
  jn (σ := Bool) (α := Err) (br (decide ((Cell.k a0) < (0 : Int)))
  (inlO (some true))
  (br (decide ((2 : Int) < (Cell.k a0)))
  (inlO (some true))
  (bno (F30 (Cell.n a0)) fun y1 =>
  br (!y1)
  (inlO (some true))
  (br (decide (¬ (Cell.k a0) = (1 : Int)))
  (inlO (some (decide (¬ (Cell.n a0) = (0 : Int)))))
  (inlO (some false)))))) fun x2 =>
  br x2
  (some (Err.no (1 : Int)))
  (some Err.nil)
theorem s52 (F30 : Int → (Option Bool)) (a0 : Cell) : tf52.run [⟨30, [.int], .bool, fun x => F30 x, false, []⟩] [(.st .cell)] .err a0 = S52 F30 a0 := by kernel_rfl
noncomputable def P52 (a0 : Cell) : Option Err := S52 P30 a0
noncomputable def k52 : CSpec := ⟨52, [(.st .cell)], .err, fun x => P52 x, false, []⟩
theorem r52 {S : Seat} (h : Ok1 S 52 tf52) (h30 : Rt S k30) : Rt S k52 := fun x y hy =>
  Ok1.sound h (C := [k30]) (CSound.cons h30 CSound.nil) rfl rfl rfl ((s52 P30 x).trans hy) rfl

/- tallyhall/cell.both -/
noncomputable def S31_32 (F32 : Cell → Cell → (Option Cell)) (F52 : Cell → (Option Err)) (a0 : Cell) (a1 : Cell) : Option (Cell × Err) :=
  bno (F52 a0) fun y1 =>
  br (!(Err.isNil y1))
  (some (Cell.mk (0 : Int) (0 : Int), y1))
  (bno (F52 a1) fun y2 =>
  br (!(Err.isNil y2))
  (some (Cell.mk (0 : Int) (0 : Int), y2))
  (bno (F32 a0 a1) fun y3 =>
  some (y3, Err.nil)))
noncomputable def P31_32 (a0 : Cell) (a1 : Cell) : Option (Cell × Err) := S31_32 P32 P52 a0 a1
/- tallyhall/cell.Add -/
noncomputable def S9 (F31_32 : Cell → Cell → (Option (Cell × Err))) (a0 : Cell) (a1 : Cell) : Option (Cell × Err) :=
  bno (F31_32 a0 a1) fun y1 =>
  some (y1.1, y1.2)
noncomputable def P9 (a0 : Cell) (a1 : Cell) : Option (Cell × Err) := S9 P31_32 a0 a1
/- tallyhall/cell.size -/
def tc62 : TCode :=
  .seq (.region [
  ⟨some 2, .mov (.c (.int .i64 0)), none, []⟩] [] false)
  (.seq (.region [
  ⟨some 3, .mov (.t 0), none, []⟩,
  ⟨some 4, .mov (.t 0), none, []⟩,
  ⟨some 5, .un .neg (.t 4), none, []⟩,
  ⟨some 6, .max2 (.t 3) (.t 5), none, []⟩,
  ⟨some 2, .mov (.t 6), none, []⟩] [] false)
  (.ret))
def tf62 : TFunc := { np := 1, nt := 7, res := [.tmp 2], own := false, body := tc62 }
noncomputable def S62 (a0 : Int) : Option Int :=
  some (maxT a0 (wi (0 - a0)))
theorem s62 (a0 : Int) : tf62.run [] [.int] .int a0 = S62 a0 := by kernel_rfl
noncomputable def P62 (a0 : Int) : Option Int := S62 a0
noncomputable def k62 : CSpec := ⟨62, [.int], .int, fun x => P62 x, false, []⟩
theorem r62 {S : Seat} (h : Ok1 S 62 tf62) : Rt S k62 := fun x y hy =>
  Ok1.sound h (C := []) CSound.nil rfl rfl rfl ((s62 x).trans hy) rfl

/- tallyhall/cell.Times -/
def tc34 : TCode :=
  .seq (.region [
  ⟨some 2, .box (.t 0), none, []⟩,
  ⟨some 3, .box (.t 1), none, []⟩,
  ⟨some 4, .alloc [.int .i64 0, .int .i64 0], none, []⟩] [] false)
  (.seq (.block 0 (.seq (.regionJ ⟨[.slot 5 .bool], [6, 7, 8, 9, 10, 11, 12, 13], [], []⟩ [
  ⟨some 6, .fa 0 (.t 2), none, []⟩,
  ⟨some 7, .load none (.t 6), none, []⟩,
  ⟨some 8, .bin .int .eql (.t 7) (.c (.int .i64 2)), none, []⟩,
  ⟨some 9, .mov (.t 8), none, []⟩,
  ⟨some 10, .fa 0 (.t 3), (some (9, false)), []⟩,
  ⟨some 11, .load none (.t 10), (some (9, false)), []⟩,
  ⟨some 12, .bin .int .eql (.t 11) (.c (.int .i64 2)), (some (9, false)), []⟩,
  ⟨some 13, .pick (.t 9) (.c (.bool true)) (.t 12), none, []⟩,
  ⟨some 5, .mov (.t 13), none, []⟩] [] false)
    (.cond (.t 5)
      (.seq (.region [
  ⟨some 14, .build [.int .i64 0, .int .i64 0] [(0, 1, (.c (.int .i64 2)))], none, []⟩,
  ⟨none, .store 2 (.t 4) (.t 14), none, []⟩] [] false)
      (.ret))
      (.seq (.regionJ ⟨[.slot 15 .bool], [16, 17, 18, 19, 20, 21, 22, 23], [], []⟩ [
  ⟨some 16, .fa 0 (.t 2), none, []⟩,
  ⟨some 17, .load none (.t 16), none, []⟩,
  ⟨some 18, .bin .int .eql (.t 17) (.c (.int .i64 0)), none, []⟩,
  ⟨some 19, .mov (.t 18), none, []⟩,
  ⟨some 20, .fa 0 (.t 3), (some (19, false)), []⟩,
  ⟨some 21, .load none (.t 20), (some (19, false)), []⟩,
  ⟨some 22, .bin .int .eql (.t 21) (.c (.int .i64 0)), (some (19, false)), []⟩,
  ⟨some 23, .pick (.t 19) (.c (.bool true)) (.t 22), none, []⟩,
  ⟨some 15, .mov (.t 23), none, []⟩] [] false)
      (.cond (.t 15)
        (.seq (.region [
  ⟨some 24, .build [.int .i64 0, .int .i64 0] [], none, []⟩,
  ⟨none, .store 2 (.t 4) (.t 24), none, []⟩] [] false)
        (.ret))
        (.seq (.regionJ ⟨[.slot 25 .bool], [26, 27, 28, 29, 30, 31, 32, 33, 34, 35, 36, 37, 38], [], []⟩ [
  ⟨some 26, .fa 1 (.t 2), none, []⟩,
  ⟨some 27, .load none (.t 26), none, [0]⟩,
  ⟨some 28, .bin .int .neq (.t 27) (.c (.int .i64 0)), none, [1]⟩,
  ⟨some 29, .mov (.t 28), none, [2]⟩,
  ⟨some 30, .fa 1 (.t 3), (some (29, true)), [3]⟩,
  ⟨some 31, .load none (.t 30), (some (29, true)), [4, 3]⟩,
  ⟨some 32, .call false [] 62 [(.t 31)], (some (29, true)), [5, 3, 3]⟩,
  ⟨some 33, .fa 1 (.t 2), (some (29, true)), [3]⟩,
  ⟨some 34, .load none (.t 33), (some (29, true)), [7, 3]⟩,
  ⟨some 35, .call false [] 62 [(.t 34)], (some (29, true)), [8, 6, 3]⟩,
  ⟨some 36, .bin .int .quo (.c (.int .i64 1000000000000)) (.t 35), (some (29, true)), [9, 3]⟩,
  ⟨some 37, .bin .int .gtr (.t 32) (.t 36), (some (29, true)), [6, 10, 3]⟩,
  ⟨some 38, .pick (.t 29) (.t 37) (.c (.bool false)), none, [3, 11]⟩,
  ⟨some 25, .mov (.t 38), none, [12, 9]⟩] [] true)
        (.cond (.t 25)
          (.seq (.region [
  ⟨some 39, .build [.int .i64 0, .int .i64 0] [(0, 1, (.c (.int .i64 2)))], none, []⟩,
  ⟨none, .store 2 (.t 4) (.t 39), none, []⟩] [] false)
          (.ret))
          (.skip))))))))
  (.seq (.region [
  ⟨some 40, .fa 1 (.t 2), none, []⟩,
  ⟨some 41, .load none (.t 40), none, []⟩,
  ⟨some 42, .fa 1 (.t 3), none, []⟩,
  ⟨some 43, .load none (.t 42), none, []⟩,
  ⟨some 44, .bin .int .mul (.t 41) (.t 43), none, []⟩,
  ⟨some 45, .call false [] 8 [(.t 44)], none, []⟩,
  ⟨none, .store 2 (.t 4) (.t 45), none, []⟩] [] false)
  (.ret)))
def tf34 : TFunc := { np := 2, nt := 46, res := [.cell 4 (some 2)], own := false, body := tc34 }
noncomputable def S34 (F62 : Int → (Option Int)) (F8 : Int → (Option Cell)) (a0 : Cell) (a1 : Cell) : Option Cell :=
  jn (σ := Bool) (α := Cell) (br (decide ((Cell.k a0) = (2 : Int)))
  (inlO (some true))
  (inlO (some (decide ((Cell.k a1) = (2 : Int)))))) fun x1 =>
  br x1
  (some (Cell.mk (2 : Int) (0 : Int)))
  (jn (σ := Bool) (α := Cell) (br (decide ((Cell.k a0) = (0 : Int)))
  (inlO (some true))
  (inlO (some (decide ((Cell.k a1) = (0 : Int)))))) fun x2 =>
  br x2
  (some (Cell.mk (0 : Int) (0 : Int)))
  (jn (σ := Bool) (α := Cell) (br (decide (¬ (Cell.n a0) = (0 : Int)))
  (bno (F62 (Cell.n a1)) fun y3 =>
  bno (F62 (Cell.n a0)) fun y4 =>
  ck (decide (¬ y4 = 0)) <|
  inlO (some (decide ((wi (Int.tdiv (1000000000000 : Int) y4)) < y3))))
  (inlO (some false))) fun x5 =>
  br x5
  (some (Cell.mk (2 : Int) (0 : Int)))
  (bno (F8 (wi ((Cell.n a0) * (Cell.n a1)))) fun y6 =>
  some y6)))
theorem s34 (F62 : Int → (Option Int)) (F8 : Int → (Option Cell)) (a0 : Cell) (a1 : Cell) : tf34.run [⟨62, [.int], .int, fun x => F62 x, false, []⟩,
  ⟨8, [.int], (.st .cell), fun x => F8 x, false, []⟩] [(.st .cell), (.st .cell)] (.st .cell) (a0, a1) = S34 F62 F8 a0 a1 := by kernel_rfl
noncomputable def P34 (a0 : Cell) (a1 : Cell) : Option Cell := S34 P62 P8 a0 a1
noncomputable def k34 : CSpec := ⟨34, [(.st .cell), (.st .cell)], (.st .cell), fun x => P34 x.1 x.2, false, []⟩
theorem r34 {S : Seat} (h : Ok1 S 34 tf34) (h62 : Rt S k62) (h8 : Rt S k8) : Rt S k34 := fun x y hy =>
  Ok1.sound h (C := [k62, k8]) (CSound.cons h62 (CSound.cons h8 CSound.nil)) rfl rfl rfl ((s34 P62 P8 x.1 x.2).trans hy) rfl

noncomputable def S31_34 (F34 : Cell → Cell → (Option Cell)) (F52 : Cell → (Option Err)) (a0 : Cell) (a1 : Cell) : Option (Cell × Err) :=
  bno (F52 a0) fun y1 =>
  br (!(Err.isNil y1))
  (some (Cell.mk (0 : Int) (0 : Int), y1))
  (bno (F52 a1) fun y2 =>
  br (!(Err.isNil y2))
  (some (Cell.mk (0 : Int) (0 : Int), y2))
  (bno (F34 a0 a1) fun y3 =>
  some (y3, Err.nil)))
noncomputable def P31_34 (a0 : Cell) (a1 : Cell) : Option (Cell × Err) := S31_34 P34 P52 a0 a1
/- tallyhall/cell.Mul -/
noncomputable def S10 (F31_34 : Cell → Cell → (Option (Cell × Err))) (a0 : Cell) (a1 : Cell) : Option (Cell × Err) :=
  bno (F31_34 a0 a1) fun y1 =>
  some (y1.1, y1.2)
noncomputable def P10 (a0 : Cell) (a1 : Cell) : Option (Cell × Err) := S10 P31_34 a0 a1
/- tallyhall/cell.Over -/
def tc35 : TCode :=
  .seq (.region [
  ⟨some 2, .box (.t 0), none, []⟩,
  ⟨some 3, .box (.t 1), none, []⟩,
  ⟨some 4, .alloc [.int .i64 0, .int .i64 0], none, []⟩] [] false)
  (.seq (.block 0 (.seq (.regionJ ⟨[.slot 5 .bool], [6, 7, 8, 9, 10, 11, 12, 13], [], []⟩ [
  ⟨some 6, .fa 0 (.t 2), none, []⟩,
  ⟨some 7, .load none (.t 6), none, []⟩,
  ⟨some 8, .bin .int .eql (.t 7) (.c (.int .i64 2)), none, []⟩,
  ⟨some 9, .mov (.t 8), none, []⟩,
  ⟨some 10, .fa 0 (.t 3), (some (9, false)), []⟩,
  ⟨some 11, .load none (.t 10), (some (9, false)), []⟩,
  ⟨some 12, .bin .int .eql (.t 11) (.c (.int .i64 2)), (some (9, false)), []⟩,
  ⟨some 13, .pick (.t 9) (.c (.bool true)) (.t 12), none, []⟩,
  ⟨some 5, .mov (.t 13), none, []⟩] [] false)
    (.cond (.t 5)
      (.seq (.region [
  ⟨some 14, .build [.int .i64 0, .int .i64 0] [(0, 1, (.c (.int .i64 2)))], none, []⟩,
  ⟨none, .store 2 (.t 4) (.t 14), none, []⟩] [] false)
      (.ret))
      (.seq (.regionJ ⟨[.slot 15 .bool], [16, 17, 18, 19, 20, 21, 22, 23], [], []⟩ [
  ⟨some 16, .fa 0 (.t 2), none, []⟩,
  ⟨some 17, .load none (.t 16), none, []⟩,
  ⟨some 18, .bin .int .eql (.t 17) (.c (.int .i64 0)), none, []⟩,
  ⟨some 19, .mov (.t 18), none, []⟩,
  ⟨some 20, .fa 0 (.t 3), (some (19, false)), []⟩,
  ⟨some 21, .load none (.t 20), (some (19, false)), []⟩,
  ⟨some 22, .bin .int .eql (.t 21) (.c (.int .i64 0)), (some (19, false)), []⟩,
  ⟨some 23, .pick (.t 19) (.c (.bool true)) (.t 22), none, []⟩,
  ⟨some 15, .mov (.t 23), none, []⟩] [] false)
      (.cond (.t 15)
        (.seq (.region [
  ⟨some 24, .build [.int .i64 0, .int .i64 0] [], none, []⟩,
  ⟨none, .store 2 (.t 4) (.t 24), none, []⟩] [] false)
        (.ret))
        (.seq (.region [
  ⟨some 26, .fa 1 (.t 3), none, []⟩,
  ⟨some 27, .load none (.t 26), none, []⟩,
  ⟨some 28, .bin .int .eql (.t 27) (.c (.int .i64 0)), none, []⟩,
  ⟨some 25, .mov (.t 28), none, []⟩] [] false)
        (.cond (.t 25)
          (.seq (.region [
  ⟨some 29, .build [.int .i64 0, .int .i64 0] [(0, 1, (.c (.int .i64 2)))], none, []⟩,
  ⟨none, .store 2 (.t 4) (.t 29), none, []⟩] [] false)
          (.ret))
          (.skip))))))))
  (.seq (.region [
  ⟨some 30, .fa 1 (.t 2), none, []⟩,
  ⟨some 31, .load none (.t 30), none, []⟩,
  ⟨some 32, .fa 1 (.t 3), none, []⟩,
  ⟨some 33, .load none (.t 32), none, []⟩,
  ⟨some 34, .bin .int .quo (.t 31) (.t 33), none, []⟩,
  ⟨some 35, .call false [] 8 [(.t 34)], none, []⟩,
  ⟨none, .store 2 (.t 4) (.t 35), none, []⟩] [] false)
  (.ret)))
def tf35 : TFunc := { np := 2, nt := 36, res := [.cell 4 (some 2)], own := false, body := tc35 }
noncomputable def S35 (F8 : Int → (Option Cell)) (a0 : Cell) (a1 : Cell) : Option Cell :=
  jn (σ := Bool) (α := Cell) (br (decide ((Cell.k a0) = (2 : Int)))
  (inlO (some true))
  (inlO (some (decide ((Cell.k a1) = (2 : Int)))))) fun x1 =>
  br x1
  (some (Cell.mk (2 : Int) (0 : Int)))
  (jn (σ := Bool) (α := Cell) (br (decide ((Cell.k a0) = (0 : Int)))
  (inlO (some true))
  (inlO (some (decide ((Cell.k a1) = (0 : Int)))))) fun x2 =>
  br x2
  (some (Cell.mk (0 : Int) (0 : Int)))
  (br (decide ((Cell.n a1) = (0 : Int)))
  (some (Cell.mk (2 : Int) (0 : Int)))
  (ck (decide (¬ (Cell.n a1) = 0)) <|
  bno (F8 (wi (Int.tdiv (Cell.n a0) (Cell.n a1)))) fun y3 =>
  some y3)))
theorem s35 (F8 : Int → (Option Cell)) (a0 : Cell) (a1 : Cell) : tf35.run [⟨8, [.int], (.st .cell), fun x => F8 x, false, []⟩] [(.st .cell), (.st .cell)] (.st .cell) (a0, a1) = S35 F8 a0 a1 := by kernel_rfl
noncomputable def P35 (a0 : Cell) (a1 : Cell) : Option Cell := S35 P8 a0 a1
noncomputable def k35 : CSpec := ⟨35, [(.st .cell), (.st .cell)], (.st .cell), fun x => P35 x.1 x.2, false, []⟩
theorem r35 {S : Seat} (h : Ok1 S 35 tf35) (h8 : Rt S k8) : Rt S k35 := fun x y hy =>
  Ok1.sound h (C := [k8]) (CSound.cons h8 CSound.nil) rfl rfl rfl ((s35 P8 x.1 x.2).trans hy) rfl

noncomputable def S31_35 (F35 : Cell → Cell → (Option Cell)) (F52 : Cell → (Option Err)) (a0 : Cell) (a1 : Cell) : Option (Cell × Err) :=
  bno (F52 a0) fun y1 =>
  br (!(Err.isNil y1))
  (some (Cell.mk (0 : Int) (0 : Int), y1))
  (bno (F52 a1) fun y2 =>
  br (!(Err.isNil y2))
  (some (Cell.mk (0 : Int) (0 : Int), y2))
  (bno (F35 a0 a1) fun y3 =>
  some (y3, Err.nil)))
noncomputable def P31_35 (a0 : Cell) (a1 : Cell) : Option (Cell × Err) := S31_35 P35 P52 a0 a1
/- tallyhall/cell.Div -/
noncomputable def S11 (F31_35 : Cell → Cell → (Option (Cell × Err))) (a0 : Cell) (a1 : Cell) : Option (Cell × Err) :=
  bno (F31_35 a0 a1) fun y1 =>
  some (y1.1, y1.2)
noncomputable def P11 (a0 : Cell) (a1 : Cell) : Option (Cell × Err) := S11 P31_35 a0 a1
/- tallyhall/cell.Sub$1 -/
noncomputable def S36 (F33 : Cell → Cell → Int → (Option Cell)) (a0 : Cell) (a1 : Cell) : Option Cell :=
  bno (F33 a0 a1 (-1 : Int)) fun y1 =>
  some y1
noncomputable def P36 (a0 : Cell) (a1 : Cell) : Option Cell := S36 P33 a0 a1
noncomputable def S31_36 (F36 : Cell → Cell → (Option Cell)) (F52 : Cell → (Option Err)) (a0 : Cell) (a1 : Cell) : Option (Cell × Err) :=
  bno (F52 a0) fun y1 =>
  br (!(Err.isNil y1))
  (some (Cell.mk (0 : Int) (0 : Int), y1))
  (bno (F52 a1) fun y2 =>
  br (!(Err.isNil y2))
  (some (Cell.mk (0 : Int) (0 : Int), y2))
  (bno (F36 a0 a1) fun y3 =>
  some (y3, Err.nil)))
noncomputable def P31_36 (a0 : Cell) (a1 : Cell) : Option (Cell × Err) := S31_36 P36 P52 a0 a1
/- tallyhall/cell.Sub -/
noncomputable def S12 (F31_36 : Cell → Cell → (Option (Cell × Err))) (a0 : Cell) (a1 : Cell) : Option (Cell × Err) :=
  bno (F31_36 a0 a1) fun y1 =>
  some (y1.1, y1.2)
noncomputable def P12 (a0 : Cell) (a1 : Cell) : Option (Cell × Err) := S12 P31_36 a0 a1
end Ab
