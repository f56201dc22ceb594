/-
  Functions of the program as typed code, what they come to, and their contracts: written by program (mk.py).
-/
import Derived.Test.YthjpciiacibnhaaDoorB2
import Derived.KernelRfl
namespace Ab
open Go
set_option linter.unusedVariables false
set_option maxRecDepth 100000

/- tallyhall/cell.within -/
def tc30 : TCode :=
  .seq (.region [
  ⟨some 2, .mov (.c (.bool false)), none, []⟩] [] false)
  (.seq (.regionJ ⟨[.slot 2 .bool], [3, 4, 5, 6, 7, 8], [], []⟩ [
  ⟨some 3, .mov (.t 0), none, []⟩,
  ⟨some 4, .bin .int .geq (.t 3) (.c (.int .i64 (-1000000000000))), none, []⟩,
  ⟨some 5, .mov (.t 4), none, []⟩,
  ⟨some 6, .mov (.t 0), (some (5, true)), []⟩,
  ⟨some 7, .bin .int .leq (.t 6) (.c (.int .i64 1000000000000)), (some (5, true)), []⟩,
  ⟨some 8, .pick (.t 5) (.t 7) (.c (.bool false)), none, []⟩,
  ⟨some 2, .mov (.t 8), none, []⟩] [] false)
  (.ret))
def tf30 : TFunc := { np := 1, nt := 9, res := [.tmp 2], own := false, body := tc30 }
noncomputable def S30 (a0 : Int) : Option Bool :=
  jn (σ := Bool) (α := Bool) (br (decide ((-1000000000000 : Int) ≤ a0))
  (inlO (some (decide (a0 ≤ (1000000000000 : Int)))))
  (inlO (some false))) fun x1 =>
  some x1
theorem s30 (a0 : Int) : tf30.run [] [.int] .bool a0 = S30 a0 := by kernel_rfl
noncomputable def P30 (a0 : Int) : Option Bool := S30 a0
noncomputable def k30 : CSpec := ⟨30, [.int], .bool, fun x => P30 x, false, []⟩
theorem r30 {S : Seat} (h : Ok1 S 30 tf30) : Rt S k30 := fun x y hy =>
  Ok1.sound h (C := []) CSound.nil rfl rfl rfl ((s30 x).trans hy) rfl

/- tallyhall/cell.Of -/
def tc8 : TCode :=
  .seq (.region [
  ⟨some 2, .alloc [.int .i64 0, .int .i64 0], none, []⟩] [] false)
  (.seq (.seq (.region [
  ⟨some 3, .mov (.t 0), none, []⟩,
  ⟨some 4, .call false [] 30 [(.t 3)], none, []⟩,
  ⟨some 5, .un .not (.t 4), none, []⟩] [] false)
  (.cond (.t 5)
    (.seq (.region [
  ⟨some 6, .build [.int .i64 0, .int .i64 0] [(0, 1, (.c (.int .i64 2)))], none, []⟩,
  ⟨none, .store 2 (.t 2) (.t 6), none, []⟩] [] false)
    (.ret))
    (.skip)))
  (.seq (.region [
  ⟨some 7, .mov (.t 0), none, []⟩,
  ⟨some 8, .build [.int .i64 0, .int .i64 0] [(0, 1, (.c (.int .i64 1))), (1, 1, (.t 7))], none, []⟩,
  ⟨none, .store 2 (.t 2) (.t 8), none, []⟩] [] false)
  (.ret)))
def tf8 : TFunc := { np := 1, nt := 9, res := [.cell 2 (some 2)], own := false, body := tc8 }
noncomputable def S8 (F30 : Int → (Option Bool)) (a0 : Int) : Option Cell :=
  bno (F30 a0) fun y1 =>
  br (!y1)
  (some (Cell.mk (2 : Int) (0 : Int)))
  (some (Cell.mk (1 : Int) a0))
theorem s8 (F30 : Int → (Option Bool)) (a0 : Int) : tf8.run [⟨30, [.int], .bool, fun x => F30 x, false, []⟩] [.int] (.st .cell) a0 = S8 F30 a0 := by kernel_rfl
noncomputable def P8 (a0 : Int) : Option Cell := S8 P30 a0
noncomputable def k8 : CSpec := ⟨8, [.int], (.st .cell), fun x => P8 x, false, []⟩
theorem r8 {S : Seat} (h : Ok1 S 8 tf8) (h30 : Rt S k30) : Rt S k8 := fun x y hy =>
  Ok1.sound h (C := [k30]) (CSound.cons h30 CSound.nil) rfl rfl rfl ((s8 P30 x).trans hy) rfl

/- tallyhall/cell.Plus -/
def tc33 : TCode :=
  .seq (.region [
  ⟨some 3, .box (.t 0), none, []⟩,
  ⟨some 4, .box (.t 1), none, []⟩,
  ⟨some 6, .alloc [.int .i64 0, .int .i64 0], none, []⟩] [] false)
  (.seq (.block 0 (.seq (.regionJ ⟨[.slot 7 .bool], [8, 9, 10, 11, 12, 13, 14, 15], [], []⟩ [
  ⟨some 8, .fa 0 (.t 3), none, []⟩,
  ⟨some 9, .load none (.t 8), none, []⟩,
  ⟨some 10, .bin .int .eql (.t 9) (.c (.int .i64 2)), none, []⟩,
  ⟨some 11, .mov (.t 10), none, []⟩,
  ⟨some 12, .fa 0 (.t 4), (some (11, false)), []⟩,
  ⟨some 13, .load none (.t 12), (some (11, false)), []⟩,
  ⟨some 14, .bin .int .eql (.t 13) (.c (.int .i64 2)), (some (11, false)), []⟩,
  ⟨some 15, .pick (.t 11) (.c (.bool true)) (.t 14), none, []⟩,
  ⟨some 7, .mov (.t 15), none, []⟩] [] false)
    (.cond (.t 7)
      (.seq (.region [
  ⟨some 16, .build [.int .i64 0, .int .i64 0] [(0, 1, (.c (.int .i64 2)))], none, []⟩,
  ⟨none, .store 2 (.t 6) (.t 16), none, []⟩] [] false)
      (.ret))
      (.seq (.regionJ ⟨[.slot 17 .bool], [18, 19, 20, 21, 22, 23, 24, 25], [], []⟩ [
  ⟨some 18, .fa 0 (.t 3), none, []⟩,
  ⟨some 19, .load none (.t 18), none, []⟩,
  ⟨some 20, .bin .int .eql (.t 19) (.c (.int .i64 0)), none, []⟩,
  ⟨some 21, .mov (.t 20), none, []⟩,
  ⟨some 22, .fa 0 (.t 4), (some (21, true)), []⟩,
  ⟨some 23, .load none (.t 22), (some (21, true)), []⟩,
  ⟨some 24, .bin .int .eql (.t 23) (.c (.int .i64 0)), (some (21, true)), []⟩,
  ⟨some 25, .pick (.t 21) (.t 24) (.c (.bool false)), none, []⟩,
  ⟨some 17, .mov (.t 25), none, []⟩] [] false)
      (.cond (.t 17)
        (.seq (.region [
  ⟨some 26, .build [.int .i64 0, .int .i64 0] [], none, []⟩,
  ⟨none, .store 2 (.t 6) (.t 26), none, []⟩] [] false)
        (.ret))
        (.skip))))))
  (.seq (.region [
  ⟨some 27, .fa 1 (.t 3), none, []⟩,
  ⟨some 28, .load none (.t 27), none, []⟩,
  ⟨some 29, .mov (.t 2), none, []⟩,
  ⟨some 30, .fa 1 (.t 4), none, []⟩,
  ⟨some 31, .load none (.t 30), none, []⟩,
  ⟨some 32, .bin .int .mul (.t 29) (.t 31), none, []⟩,
  ⟨some 33, .bin .int .add (.t 28) (.t 32), none, []⟩,
  ⟨some 34, .call false [] 8 [(.t 33)], none, []⟩,
  ⟨none, .store 2 (.t 6) (.t 34), none, []⟩] [] false)
  (.ret)))
def tf33 : TFunc := { np := 3, nt := 35, res := [.cell 6 (some 2)], own := false, body := tc33 }
noncomputable def S33 (F8 : Int → (Option Cell)) (a0 : Cell) (a1 : Cell) (a2 : Int) : Option Cell :=
  jn (σ := Bool) (α := Cell) (br (decide ((Cell.k a0) = (2 : Int)))
  (inlO (some true))
  (inlO (some (decide ((Cell.k a1) = (2 : Int)))))) fun x1 =>
  br x1
  (some (Cell.mk (2 : Int) (0 : Int)))
  (jn (σ := Bool) (α := Cell) (br (decide ((Cell.k a0) = (0 : Int)))
  (inlO (some (decide ((Cell.k a1) = (0 : Int)))))
  (inlO (some false))) fun x2 =>
  br x2
  (some (Cell.mk (0 : Int) (0 : Int)))
  (bno (F8 (wi ((Cell.n a0) + (wi (a2 * (Cell.n a1)))))) fun y3 =>
  some y3))
theorem s33 (F8 : Int → (Option Cell)) (a0 : Cell) (a1 : Cell) (a2 : Int) : tf33.run [⟨8, [.int], (.st .cell), fun x => F8 x, false, []⟩] [(.st .cell), (.st .cell), .int] (.st .cell) (a0, a1, a2) = S33 F8 a0 a1 a2 := by kernel_rfl
noncomputable def P33 (a0 : Cell) (a1 : Cell) (a2 : Int) : Option Cell := S33 P8 a0 a1 a2
noncomputable def k33 : CSpec := ⟨33, [(.st .cell), (.st .cell), .int], (.st .cell), fun x => P33 x.1 x.2.1 x.2.2, false, []⟩
theorem r33 {S : Seat} (h : Ok1 S 33 tf33) (h8 : Rt S k8) : Rt S k33 := fun x y hy =>
  Ok1.sound h (C := [k8]) (CSound.cons h8 CSound.nil) rfl rfl rfl ((s33 P8 x.1 x.2.1 x.2.2).trans hy) rfl

/- tallyhall/cell.Add$1 -/
def tc32 : TCode :=
  .seq (.region [
  ⟨some 2, .box (.t 0), none, []⟩,
  ⟨some 3, .box (.t 1), none, []⟩,
  ⟨some 4, .alloc [.int .i64 0, .int .i64 0], none, []⟩] [] false)
  (.seq (.region [
  ⟨some 5, .load (some 2) (.t 2), none, []⟩,
  ⟨some 6, .load (some 2) (.t 3), none, []⟩,
  ⟨some 7, .call false [] 33 [(.t 5), (.t 6), (.c (.int .i64 1))], none, []⟩,
  ⟨none, .store 2 (.t 4) (.t 7), none, []⟩] [] false)
  (.ret))
def tf32 : TFunc := { np := 2, nt := 8, res := [.cell 4 (some 2)], own := false, body := tc32 }
noncomputable def S32 (F33 : Cell → Cell → Int → (Option Cell)) (a0 : Cell) (a1 : Cell) : Option Cell :=
  bno (F33 a0 a1 (1 : Int)) fun y1 =>
  some y1
theorem s32 (F33 : Cell → Cell → Int → (Option Cell)) (a0 : Cell) (a1 : Cell) : tf32.run [⟨33, [(.st .cell), (.st .cell), .int], (.st .cell), fun x => F33 x.1 x.2.1 x.2.2, false, []⟩] [(.st .cell), (.st .cell)] (.st .cell) (a0, a1) = S32 F33 a0 a1 := by kernel_rfl
noncomputable def P32 (a0 : Cell) (a1 : Cell) : Option Cell := S32 P33 a0 a1
noncomputable def k32 : CSpec := ⟨32, [(.st .cell), (.st .cell)], (.st .cell), fun x => P32 x.1 x.2, false, []⟩
theorem r32 {S : Seat} (h : Ok1 S 32 tf32) (h33 : Rt S k33) : Rt S k32 := fun x y hy =>
  Ok1.sound h (C := [k33]) (CSound.cons h33 CSound.nil) rfl rfl rfl ((s32 P33 x.1 x.2).trans hy) rfl

/- tallyhall/cell.Check -/
def tc52 : TCode :=
  .seq (.region [
  ⟨some 1, .box (.t 0), none, []⟩,
  ⟨some 2, .mov (.c (.nilIface)), none, []⟩] [] false)
  (.seq (.seq (.regionJ ⟨[.slot 26 .bool], [3, 4, 5, 6, 7, 8, 9, 10, 11, 12, 13, 14, 15, 16, 17, 18, 19, 20, 21, 22, 23, 24, 25], [], []⟩ [
  ⟨some 3, .fa 0 (.t 1), none, []⟩,
  ⟨some 4, .load none (.t 3), none, []⟩,
  ⟨some 5, .bin .int .lss (.t 4) (.c (.int .i64 0)), none, []⟩,
  ⟨some 6, .mov (.t 5), none, []⟩,
  ⟨some 7, .fa 0 (.t 1), (some (6, false)), []⟩,
  ⟨some 8, .load none (.t 7), (some (6, false)), []⟩,
  ⟨some 9, .bin .int .gtr (.t 8) (.c (.int .i64 2)), (some (6, false)), []⟩,
  ⟨some 10, .pick (.t 6) (.c (.bool true)) (.t 9), none, []⟩,
  ⟨some 11, .mov (.t 10), none, []⟩,
  ⟨some 12, .fa 1 (.t 1), (some (11, false)), []⟩,
  ⟨some 13, .load none (.t 12), (some (11, false)), []⟩,
  ⟨some 14, .call false [] 30 [(.t 13)], (some (11, false)), []⟩,
  ⟨some 15, .un .not (.t 14), (some (11, false)), []⟩,
  ⟨some 16, .pick (.t 11) (.c (.bool true)) (.t 15), none, []⟩,
  ⟨some 17, .mov (.t 16), none, []⟩,
  ⟨some 18, .fa 0 (.t 1), (some (17, false)), []⟩,
  ⟨some 19, .load none (.t 18), (some (17, false)), []⟩,
  ⟨some 20, .bin .int .neq (.t 19) (.c (.int .i64 1)), (some (17, false)), []⟩,
  ⟨some 21, .mov (.t 20), (some (17, false)), []⟩,
  ⟨some 22, .fa 1 (.t 1), (some (21, true)), []⟩,
  ⟨some 23, .load none (.t 22), (some (21, true)), []⟩,
  ⟨some 24, .bin .int .neq (.t 23) (.c (.int .i64 0)), (some (21, true)), []⟩,
  ⟨some 25, .pick (.t 21) (.t 24) (.c (.bool false)), (some (17, false)), []⟩,
  ⟨some 26, .pick (.t 17) (.c (.bool true)) (.t 25), none, []⟩] [] false)
  (.cond (.t 26)
    (.seq (.region [
  ⟨some 27, .ifc 1 (.c (.int .i64 1)), none, []⟩,
  ⟨some 2, .mov (.t 27), none, []⟩] [] false)
    (.ret))
    (.skip)))
  (.seq (.region [
  ⟨some 2, .mov (.c (.nilIface)), none, []⟩] [] false)
  (.ret)))
def tf52 : TFunc := { np := 1, nt := 28, res := [.tmp 2], own := false, body := tc52 }
noncomputable def S52 (F30 : Int → (Option Bool)) (a0 : Cell) : Option Err :=
  jn (σ := Bool) (α := Err) (br (decide ((Cell.k a0) < (0 : Int)))
  (inlO (some true))
  (br (decide ((2 : Int) < (Cell.k a0)))
  (inlO (some true))
  (bno (F30 (Cell.n a0)) fun y1 =>
  br (!y1)
  (inlO (some true))
  (br (decide (¬ (Cell.k a0) = (1 : Int)))
  (inlO (some (decide (¬ (Cell.n a0) = (0 : Int)))))
  (inlO (some false)))))) fun x2 =>
  br x2
  (some (Err.no (1 : Int)))
  (some Err.nil)
theorem s52 (F30 : Int → (Option Bool)) (a0 : Cell) : tf52.run [⟨30, [.int], .bool, fun x => F30 x, false, []⟩] [(.st .cell)] .err a0 = S52 F30 a0 := by kernel_rfl
noncomputable def P52 (a0 : Cell) : Option Err := S52 P30 a0
noncomputable def k52 : CSpec := ⟨52, [(.st .cell)], .err, fun x => P52 x, false, []⟩
theorem r52 {S : Seat} (h : Ok1 S 52 tf52) (h30 : Rt S k30) : Rt S k52 := fun x y hy =>
  Ok1.sound h (C := [k30]) (CSound.cons h30 CSound.nil) rfl rfl rfl ((s52 P30 x).trans hy) rfl

/- tallyhall/cell.both -/
def tc31 : TCode :=
  .seq (.region [
  ⟨some 3, .box (.t 0), none, []⟩,
  ⟨some 4, .box (.t 1), none, []⟩,
  ⟨some 6, .alloc [.int .i64 0, .int .i64 0], none, []⟩,
  ⟨some 7, .mov (.c (.nilIface)), none, []⟩] [] false)
  (.seq (.seq (.region [
  ⟨some 10, .load (some 2) (.t 3), none, []⟩,
  ⟨some 11, .call false [] 52 [(.t 10)], none, []⟩,
  ⟨some 8, .mov (.t 11), none, []⟩] [] false)
  (.seq (.region [
  ⟨some 12, .mov (.t 8), none, []⟩,
  ⟨some 13, .eqn false true (.t 12), none, []⟩] [] false)
  (.cond (.t 13)
    (.seq (.region [
  ⟨some 14, .build [.int .i64 0, .int .i64 0] [], none, []⟩,
  ⟨some 15, .mov (.t 8), none, []⟩,
  ⟨none, .store 2 (.t 6) (.t 14), none, []⟩,
  ⟨some 7, .mov (.t 15), none, []⟩] [] false)
    (.ret))
    (.skip))))
  (.seq (.seq (.region [
  ⟨some 16, .load (some 2) (.t 4), none, []⟩,
  ⟨some 17, .call false [] 52 [(.t 16)], none, []⟩,
  ⟨some 9, .mov (.t 17), none, []⟩] [] false)
  (.seq (.region [
  ⟨some 18, .mov (.t 9), none, []⟩,
  ⟨some 19, .eqn false true (.t 18), none, []⟩] [] false)
  (.cond (.t 19)
    (.seq (.region [
  ⟨some 20, .build [.int .i64 0, .int .i64 0] [], none, []⟩,
  ⟨some 21, .mov (.t 9), none, []⟩,
  ⟨none, .store 2 (.t 6) (.t 20), none, []⟩,
  ⟨some 7, .mov (.t 21), none, []⟩] [] false)
    (.ret))
    (.skip))))
  (.seq (.region [
  ⟨some 22, .mov (.t 2), none, []⟩,
  ⟨some 23, .load (some 2) (.t 3), none, []⟩,
  ⟨some 24, .load (some 2) (.t 4), none, []⟩,
  ⟨some 25, .calld false (.t 22) [(.t 23), (.t 24)], none, []⟩,
  ⟨none, .store 2 (.t 6) (.t 25), none, []⟩,
  ⟨some 7, .mov (.c (.nilIface)), none, []⟩] [] false)
  (.ret))))
def tf31 : TFunc := { np := 3, nt := 26, res := [.cell 6 (some 2), .tmp 7], own := false, body := tc31 }
noncomputable def S31_32 (F32 : Cell → Cell → (Option Cell)) (F52 : Cell → (Option Err)) (a0 : Cell) (a1 : Cell) : Option (Cell × Err) :=
  bno (F52 a0) fun y1 =>
  br (!(Err.isNil y1))
  (some (Cell.mk (0 : Int) (0 : Int), y1))
  (bno (F52 a1) fun y2 =>
  br (!(Err.isNil y2))
  (some (Cell.mk (0 : Int) (0 : Int), y2))
  (bno (F32 a0 a1) fun y3 =>
  some (y3, Err.nil)))
theorem s31_32 (F32 : Cell → Cell → (Option Cell)) (F52 : Cell → (Option Err)) (a0 : Cell) (a1 : Cell) : tf31.run [⟨32, [(.st .cell), (.st .cell)], (.st .cell), fun x => F32 x.1 x.2, false, []⟩,
  ⟨52, [(.st .cell)], .err, fun x => F52 x, false, []⟩] [(.st .cell), (.st .cell), (.fnc 32 [])] (.tp [(.st .cell), .err]) (a0, a1, ()) = S31_32 F32 F52 a0 a1 := by kernel_rfl
noncomputable def P31_32 (a0 : Cell) (a1 : Cell) : Option (Cell × Err) := S31_32 P32 P52 a0 a1
noncomputable def k31_32 : CSpec := ⟨31, [(.st .cell), (.st .cell), (.fnc 32 [])], (.tp [(.st .cell), .err]), fun x => P31_32 x.1 x.2.1, false, []⟩
theorem r31_32 {S : Seat} (h : Ok1 S 31 tf31) (h32 : Rt S k32) (h52 : Rt S k52) : Rt S k31_32 := fun x y hy =>
  Ok1.sound h (C := [k32, k52]) (CSound.cons h32 (CSound.cons h52 CSound.nil)) rfl rfl rfl ((s31_32 P32 P52 x.1 x.2.1).trans hy) rfl

/- tallyhall/cell.Add -/
def tc9 : TCode :=
  .seq (.region [
  ⟨some 2, .box (.t 0), none, []⟩,
  ⟨some 3, .box (.t 1), none, []⟩,
  ⟨some 4, .alloc [.int .i64 0, .int .i64 0], none, []⟩,
  ⟨some 5, .mov (.c (.nilIface)), none, []⟩] [] false)
  (.seq (.region [
  ⟨some 6, .load (some 2) (.t 2), none, []⟩,
  ⟨some 7, .load (some 2) (.t 3), none, []⟩,
  ⟨some 8, .call false [] 31 [(.t 6), (.t 7), (.f 32)], none, []⟩,
  ⟨some 9, .ext (.t 8) 0, none, []⟩,
  ⟨some 10, .ext (.t 8) 1, none, []⟩,
  ⟨none, .store 2 (.t 4) (.t 9), none, []⟩,
  ⟨some 5, .mov (.t 10), none, []⟩] [] false)
  (.ret))
def tf9 : TFunc := { np := 2, nt := 11, res := [.cell 4 (some 2), .tmp 5], own := false, body := tc9 }
noncomputable def S9 (F31_32 : Cell → Cell → (Option (Cell × Err))) (a0 : Cell) (a1 : Cell) : Option (Cell × Err) :=
  bno (F31_32 a0 a1) fun y1 =>
  some (y1.1, y1.2)
theorem s9 (F31_32 : Cell → Cell → (Option (Cell × Err))) (a0 : Cell) (a1 : Cell) : tf9.run [⟨31, [(.st .cell), (.st .cell), (.fnc 32 [])], (.tp [(.st .cell), .err]), fun x => F31_32 x.1 x.2.1, false, []⟩] [(.st .cell), (.st .cell)] (.tp [(.st .cell), .err]) (a0, a1) = S9 F31_32 a0 a1 := by kernel_rfl
noncomputable def P9 (a0 : Cell) (a1 : Cell) : Option (Cell × Err) := S9 P31_32 a0 a1
noncomputable def k9 : CSpec := ⟨9, [(.st .cell), (.st .cell)], (.tp [(.st .cell), .err]), fun x => P9 x.1 x.2, false, []⟩
theorem r9 {S : Seat} (h : Ok1 S 9 tf9) (h31_32 : Rt S k31_32) : Rt S k9 := fun x y hy =>
  Ok1.sound h (C := [k31_32]) (CSound.cons h31_32 CSound.nil) rfl rfl rfl ((s9 P31_32 x.1 x.2).trans hy) rfl

/- tallyhall/cell.size -/
def tc62 : TCode :=
  .seq (.region [
  ⟨some 2, .mov (.c (.int .i64 0)), none, []⟩] [] false)
  (.seq (.region [
  ⟨some 3, .mov (.t 0), none, []⟩,
  ⟨some 4, .mov (.t 0), none, []⟩,
  ⟨some 5, .un .neg (.t 4), none, []⟩,
  ⟨some 6, .max2 (.t 3) (.t 5), none, []⟩,
  ⟨some 2, .mov (.t 6), none, []⟩] [] false)
  (.ret))
def tf62 : TFunc := { np := 1, nt := 7, res := [.tmp 2], own := false, body := tc62 }
noncomputable def S62 (a0 : Int) : Option Int :=
  some (maxT a0 (wi (0 - a0)))
theorem s62 (a0 : Int) : tf62.run [] [.int] .int a0 = S62 a0 := by kernel_rfl
noncomputable def P62 (a0 : Int) : Option Int := S62 a0
noncomputable def k62 : CSpec := ⟨62, [.int], .int, fun x => P62 x, false, []⟩
theorem r62 {S : Seat} (h : Ok1 S 62 tf62) : Rt S k62 := fun x y hy =>
  Ok1.sound h (C := []) CSound.nil rfl rfl rfl ((s62 x).trans hy) rfl

/- tallyhall/cell.Times -/
def tc34 : TCode :=
  .seq (.region [
  ⟨some 2, .box (.t 0), none, []⟩,
  ⟨some 3, .box (.t 1), none, []⟩,
  ⟨some 4, .alloc [.int .i64 0, .int .i64 0], none, []⟩] [] false)
  (.seq (.block 0 (.seq (.regionJ ⟨[.slot 5 .bool], [6, 7, 8, 9, 10, 11, 12, 13], [], []⟩ [
  ⟨some 6, .fa 0 (.t 2), none, []⟩,
  ⟨some 7, .load none (.t 6), none, []⟩,
  ⟨some 8, .bin .int .eql (.t 7) (.c (.int .i64 2)), none, []⟩,
  ⟨some 9, .mov (.t 8), none, []⟩,
  ⟨some 10, .fa 0 (.t 3), (some (9, false)), []⟩,
  ⟨some 11, .load none (.t 10), (some (9, false)), []⟩,
  ⟨some 12, .bin .int .eql (.t 11) (.c (.int .i64 2)), (some (9, false)), []⟩,
  ⟨some 13, .pick (.t 9) (.c (.bool true)) (.t 12), none, []⟩,
  ⟨some 5, .mov (.t 13), none, []⟩] [] false)
    (.cond (.t 5)
      (.seq (.region [
  ⟨some 14, .build [.int .i64 0, .int .i64 0] [(0, 1, (.c (.int .i64 2)))], none, []⟩,
  ⟨none, .store 2 (.t 4) (.t 14), none, []⟩] [] false)
      (.ret))
      (.seq (.regionJ ⟨[.slot 15 .bool], [16, 17, 18, 19, 20, 21, 22, 23], [], []⟩ [
  ⟨some 16, .fa 0 (.t 2), none, []⟩,
  ⟨some 17, .load none (.t 16), none, []⟩,
  ⟨some 18, .bin .int .eql (.t 17) (.c (.int .i64 0)), none, []⟩,
  ⟨some 19, .mov (.t 18), none, []⟩,
  ⟨some 20, .fa 0 (.t 3), (some (19, false)), []⟩,
  ⟨some 21, .load none (.t 20), (some (19, false)), []⟩,
  ⟨some 22, .bin .int .eql (.t 21) (.c (.int .i64 0)), (some (19, false)), []⟩,
  ⟨some 23, .pick (.t 19) (.c (.bool true)) (.t 22), none, []⟩,
  ⟨some 15, .mov (.t 23), none, []⟩] [] false)
      (.cond (.t 15)
        (.seq (.region [
  ⟨some 24, .build [.int .i64 0, .int .i64 0] [], none, []⟩,
  ⟨none, .store 2 (.t 4) (.t 24), none, []⟩] [] false)
        (.ret))
        (.seq (.regionJ ⟨[.slot 25 .bool], [26, 27, 28, 29, 30, 31, 32, 33, 34, 35, 36, 37, 38], [], []⟩ [
  ⟨some 26, .fa 1 (.t 2), none, []⟩,
  ⟨some 27, .load none (.t 26), none, [0]⟩,
  ⟨some 28, .bin .int .neq (.t 27) (.c (.int .i64 0)), none, [1]⟩,
  ⟨some 29, .mov (.t 28), none, [2]⟩,
  ⟨some 30, .fa 1 (.t 3), (some (29, true)), [3]⟩,
  ⟨some 31, .load none (.t 30), (some (29, true)), [4, 3]⟩,
  ⟨some 32, .call false [] 62 [(.t 31)], (some (29, true)), [5, 3, 3]⟩,
  ⟨some 33, .fa 1 (.t 2), (some (29, true)), [3]⟩,
  ⟨some 34, .load none (.t 33), (some (29, true)), [7, 3]⟩,
  ⟨some 35, .call false [] 62 [(.t 34)], (some (29, true)), [8, 6, 3]⟩,
  ⟨some 36, .bin .int .quo (.c (.int .i64 1000000000000)) (.t 35), (some (29, true)), [9, 3]⟩,
  ⟨some 37, .bin .int .gtr (.t 32) (.t 36), (some (29, true)), [6, 10, 3]⟩,
  ⟨some 38, .pick (.t 29) (.t 37) (.c (.bool false)), none, [3, 11]⟩,
  ⟨some 25, .mov (.t 38), none, [12, 9]⟩] [] true)
        (.cond (.t 25)
          (.seq (.region [
  ⟨some 39, .build [.int .i64 0, .int .i64 0] [(0, 1, (.c (.int .i64 2)))], none, []⟩,
  ⟨none, .store 2 (.t 4) (.t 39), none, []⟩] [] false)
          (.ret))
          (.skip))))))))
  (.seq (.region [
  ⟨some 40, .fa 1 (.t 2), none, []⟩,
  ⟨some 41, .load none (.t 40), none, []⟩,
  ⟨some 42, .fa 1 (.t 3), none, []⟩,
  ⟨some 43, .load none (.t 42), none, []⟩,
  ⟨some 44, .bin .int .mul (.t 41) (.t 43), none, []⟩,
  ⟨some 45, .call false [] 8 [(.t 44)], none, []⟩,
  ⟨none, .store 2 (.t 4) (.t 45), none, []⟩] [] false)
  (.ret)))
def tf34 : TFunc := { np := 2, nt := 46, res := [.cell 4 (some 2)], own := false, body := tc34 }
noncomputable def S34 (F62 : Int → (Option Int)) (F8 : Int → (Option Cell)) (a0 : Cell) (a1 : Cell) : Option Cell :=
  jn (σ := Bool) (α := Cell) (br (decide ((Cell.k a0) = (2 : Int)))
  (inlO (some true))
  (inlO (some (decide ((Cell.k a1) = (2 : Int)))))) fun x1 =>
  br x1
  (some (Cell.mk (2 : Int) (0 : Int)))
  (jn (σ := Bool) (α := Cell) (br (decide ((Cell.k a0) = (0 : Int)))
  (inlO (some true))
  (inlO (some (decide ((Cell.k a1) = (0 : Int)))))) fun x2 =>
  br x2
  (some (Cell.mk (0 : Int) (0 : Int)))
  (jn (σ := Bool) (α := Cell) (br (decide (¬ (Cell.n a0) = (0 : Int)))
  (bno (F62 (Cell.n a1)) fun y3 =>
  bno (F62 (Cell.n a0)) fun y4 =>
  ck (decide (¬ y4 = 0)) <|
  inlO (some (decide ((wi (Int.tdiv (1000000000000 : Int) y4)) < y3))))
  (inlO (some false))) fun x5 =>
  br x5
  (some (Cell.mk (2 : Int) (0 : Int)))
  (bno (F8 (wi ((Cell.n a0) * (Cell.n a1)))) fun y6 =>
  some y6)))
theorem s34 (F62 : Int → (Option Int)) (F8 : Int → (Option Cell)) (a0 : Cell) (a1 : Cell) : tf34.run [⟨62, [.int], .int, fun x => F62 x, false, []⟩,
  ⟨8, [.int], (.st .cell), fun x => F8 x, false, []⟩] [(.st .cell), (.st .cell)] (.st .cell) (a0, a1) = S34 F62 F8 a0 a1 := by kernel_rfl
noncomputable def P34 (a0 : Cell) (a1 : Cell) : Option Cell := S34 P62 P8 a0 a1
noncomputable def k34 : CSpec := ⟨34, [(.st .cell), (.st .cell)], (.st .cell), fun x => P34 x.1 x.2, false, []⟩
theorem r34 {S : Seat} (h : Ok1 S 34 tf34) (h62 : Rt S k62) (h8 : Rt S k8) : Rt S k34 := fun x y hy =>
  Ok1.sound h (C := [k62, k8]) (CSound.cons h62 (CSound.cons h8 CSound.nil)) rfl rfl rfl ((s34 P62 P8 x.1 x.2).trans hy) rfl

noncomputable def S31_34 (F34 : Cell → Cell → (Option Cell)) (F52 : Cell → (Option Err)) (a0 : Cell) (a1 : Cell) : Option (Cell × Err) :=
  bno (F52 a0) fun y1 =>
  br (!(Err.isNil y1))
  (some (Cell.mk (0 : Int) (0 : Int), y1))
  (bno (F52 a1) fun y2 =>
  br (!(Err.isNil y2))
  (some (Cell.mk (0 : Int) (0 : Int), y2))
  (bno (F34 a0 a1) fun y3 =>
  some (y3, Err.nil)))
theorem s31_34 (F34 : Cell → Cell → (Option Cell)) (F52 : Cell → (Option Err)) (a0 : Cell) (a1 : Cell) : tf31.run [⟨34, [(.st .cell), (.st .cell)], (.st .cell), fun x => F34 x.1 x.2, false, []⟩,
  ⟨52, [(.st .cell)], .err, fun x => F52 x, false, []⟩] [(.st .cell), (.st .cell), (.fnc 34 [])] (.tp [(.st .cell), .err]) (a0, a1, ()) = S31_34 F34 F52 a0 a1 := by kernel_rfl
noncomputable def P31_34 (a0 : Cell) (a1 : Cell) : Option (Cell × Err) := S31_34 P34 P52 a0 a1
noncomputable def k31_34 : CSpec := ⟨31, [(.st .cell), (.st .cell), (.fnc 34 [])], (.tp [(.st .cell), .err]), fun x => P31_34 x.1 x.2.1, false, []⟩
theorem r31_34 {S : Seat} (h : Ok1 S 31 tf31) (h34 : Rt S k34) (h52 : Rt S k52) : Rt S k31_34 := fun x y hy =>
  Ok1.sound h (C := [k34, k52]) (CSound.cons h34 (CSound.cons h52 CSound.nil)) rfl rfl rfl ((s31_34 P34 P52 x.1 x.2.1).trans hy) rfl

/- tallyhall/cell.Mul -/
def tc10 : TCode :=
  .seq (.region [
  ⟨some 2, .box (.t 0), none, []⟩,
  ⟨some 3, .box (.t 1), none, []⟩,
  ⟨some 4, .alloc [.int .i64 0, .int .i64 0], none, []⟩,
  ⟨some 5, .mov (.c (.nilIface)), none, []⟩] [] false)
  (.seq (.region [
  ⟨some 6, .load (some 2) (.t 2), none, []⟩,
  ⟨some 7, .load (some 2) (.t 3), none, []⟩,
  ⟨some 8, .call false [] 31 [(.t 6), (.t 7), (.f 34)], none, []⟩,
  ⟨some 9, .ext (.t 8) 0, none, []⟩,
  ⟨some 10, .ext (.t 8) 1, none, []⟩,
  ⟨none, .store 2 (.t 4) (.t 9), none, []⟩,
  ⟨some 5, .mov (.t 10), none, []⟩] [] false)
  (.ret))
def tf10 : TFunc := { np := 2, nt := 11, res := [.cell 4 (some 2), .tmp 5], own := false, body := tc10 }
noncomputable def S10 (F31_34 : Cell → Cell → (Option (Cell × Err))) (a0 : Cell) (a1 : Cell) : Option (Cell × Err) :=
  bno (F31_34 a0 a1) fun y1 =>
  some (y1.1, y1.2)
theorem s10 (F31_34 : Cell → Cell → (Option (Cell × Err))) (a0 : Cell) (a1 : Cell) : tf10.run [⟨31, [(.st .cell), (.st .cell), (.fnc 34 [])], (.tp [(.st .cell), .err]), fun x => F31_34 x.1 x.2.1, false, []⟩] [(.st .cell), (.st .cell)] (.tp [(.st .cell), .err]) (a0, a1) = S10 F31_34 a0 a1 := by kernel_rfl
noncomputable def P10 (a0 : Cell) (a1 : Cell) : Option (Cell × Err) := S10 P31_34 a0 a1
noncomputable def k10 : CSpec := ⟨10, [(.st .cell), (.st .cell)], (.tp [(.st .cell), .err]), fun x => P10 x.1 x.2, false, []⟩
theorem r10 {S : Seat} (h : Ok1 S 10 tf10) (h31_34 : Rt S k31_34) : Rt S k10 := fun x y hy =>
  Ok1.sound h (C := [k31_34]) (CSound.cons h31_34 CSound.nil) rfl rfl rfl ((s10 P31_34 x.1 x.2).trans hy) rfl

/- tallyhall/cell.Over -/
def tc35 : TCode :=
  .seq (.region [
  ⟨some 2, .box (.t 0), none, []⟩,
  ⟨some 3, .box (.t 1), none, []⟩,
  ⟨some 4, .alloc [.int .i64 0, .int .i64 0], none, []⟩] [] false)
  (.seq (.block 0 (.seq (.regionJ ⟨[.slot 5 .bool], [6, 7, 8, 9, 10, 11, 12, 13], [], []⟩ [
  ⟨some 6, .fa 0 (.t 2), none, []⟩,
  ⟨some 7, .load none (.t 6), none, []⟩,
  ⟨some 8, .bin .int .eql (.t 7) (.c (.int .i64 2)), none, []⟩,
  ⟨some 9, .mov (.t 8), none, []⟩,
  ⟨some 10, .fa 0 (.t 3), (some (9, false)), []⟩,
  ⟨some 11, .load none (.t 10), (some (9, false)), []⟩,
  ⟨some 12, .bin .int .eql (.t 11) (.c (.int .i64 2)), (some (9, false)), []⟩,
  ⟨some 13, .pick (.t 9) (.c (.bool true)) (.t 12), none, []⟩,
  ⟨some 5, .mov (.t 13), none, []⟩] [] false)
    (.cond (.t 5)
      (.seq (.region [
  ⟨some 14, .build [.int .i64 0, .int .i64 0] [(0, 1, (.c (.int .i64 2)))], none, []⟩,
  ⟨none, .store 2 (.t 4) (.t 14), none, []⟩] [] false)
      (.ret))
      (.seq (.regionJ ⟨[.slot 15 .bool], [16, 17, 18, 19, 20, 21, 22, 23], [], []⟩ [
  ⟨some 16, .fa 0 (.t 2), none, []⟩,
  ⟨some 17, .load none (.t 16), none, []⟩,
  ⟨some 18, .bin .int .eql (.t 17) (.c (.int .i64 0)), none, []⟩,
  ⟨some 19, .mov (.t 18), none, []⟩,
  ⟨some 20, .fa 0 (.t 3), (some (19, false)), []⟩,
  ⟨some 21, .load none (.t 20), (some (19, false)), []⟩,
  ⟨some 22, .bin .int .eql (.t 21) (.c (.int .i64 0)), (some (19, false)), []⟩,
  ⟨some 23, .pick (.t 19) (.c (.bool true)) (.t 22), none, []⟩,
  ⟨some 15, .mov (.t 23), none, []⟩] [] false)
      (.cond (.t 15)
        (.seq (.region [
  ⟨some 24, .build [.int .i64 0, .int .i64 0] [], none, []⟩,
  ⟨none, .store 2 (.t 4) (.t 24), none, []⟩] [] false)
        (.ret))
        (.seq (.region [
  ⟨some 26, .fa 1 (.t 3), none, []⟩,
  ⟨some 27, .load none (.t 26), none, []⟩,
  ⟨some 28, .bin .int .eql (.t 27) (.c (.int .i64 0)), none, []⟩,
  ⟨some 25, .mov (.t 28), none, []⟩] [] false)
        (.cond (.t 25)
          (.seq (.region [
  ⟨some 29, .build [.int .i64 0, .int .i64 0] [(0, 1, (.c (.int .i64 2)))], none, []⟩,
  ⟨none, .store 2 (.t 4) (.t 29), none, []⟩] [] false)
          (.ret))
          (.skip))))))))
  (.seq (.region [
  ⟨some 30, .fa 1 (.t 2), none, []⟩,
  ⟨some 31, .load none (.t 30), none, []⟩,
  ⟨some 32, .fa 1 (.t 3), none, []⟩,
  ⟨some 33, .load none (.t 32), none, []⟩,
  ⟨some 34, .bin .int .quo (.t 31) (.t 33), none, []⟩,
  ⟨some 35, .call false [] 8 [(.t 34)], none, []⟩,
  ⟨none, .store 2 (.t 4) (.t 35), none, []⟩] [] false)
  (.ret)))
def tf35 : TFunc := { np := 2, nt := 36, res := [.cell 4 (some 2)], own := false, body := tc35 }
noncomputable def S35 (F8 : Int → (Option Cell)) (a0 : Cell) (a1 : Cell) : Option Cell :=
  jn (σ := Bool) (α := Cell) (br (decide ((Cell.k a0) = (2 : Int)))
  (inlO (some true))
  (inlO (some (decide ((Cell.k a1) = (2 : Int)))))) fun x1 =>
  br x1
  (some (Cell.mk (2 : Int) (0 : Int)))
  (jn (σ := Bool) (α := Cell) (br (decide ((Cell.k a0) = (0 : Int)))
  (inlO (some true))
  (inlO (some (decide ((Cell.k a1) = (0 : Int)))))) fun x2 =>
  br x2
  (some (Cell.mk (0 : Int) (0 : Int)))
  (br (decide ((Cell.n a1) = (0 : Int)))
  (some (Cell.mk (2 : Int) (0 : Int)))
  (ck (decide (¬ (Cell.n a1) = 0)) <|
  bno (F8 (wi (Int.tdiv (Cell.n a0) (Cell.n a1)))) fun y3 =>
  some y3)))
theorem s35 (F8 : Int → (Option Cell)) (a0 : Cell) (a1 : Cell) : tf35.run [⟨8, [.int], (.st .cell), fun x => F8 x, false, []⟩] [(.st .cell), (.st .cell)] (.st .cell) (a0, a1) = S35 F8 a0 a1 := by kernel_rfl
noncomputable def P35 (a0 : Cell) (a1 : Cell) : Option Cell := S35 P8 a0 a1
noncomputable def k35 : CSpec := ⟨35, [(.st .cell), (.st .cell)], (.st .cell), fun x => P35 x.1 x.2, false, []⟩
theorem r35 {S : Seat} (h : Ok1 S 35 tf35) (h8 : Rt S k8) : Rt S k35 := fun x y hy =>
  Ok1.sound h (C := [k8]) (CSound.cons h8 CSound.nil) rfl rfl rfl ((s35 P8 x.1 x.2).trans hy) rfl

noncomputable def S31_35 (F35 : Cell → Cell → (Option Cell)) (F52 : Cell → (Option Err)) (a0 : Cell) (a1 : Cell) : Option (Cell × Err) :=
  bno (F52 a0) fun y1 =>
  br (!(Err.isNil y1))
  (some (Cell.mk (0 : Int) (0 : Int), y1))
  (bno (F52 a1) fun y2 =>
  br (!(Err.isNil y2))
  (some (Cell.mk (0 : Int) (0 : Int), y2))
  (bno (F35 a0 a1) fun y3 =>
  some (y3, Err.nil)))
theorem s31_35 (F35 : Cell → Cell → (Option Cell)) (F52 : Cell → (Option Err)) (a0 : Cell) (a1 : Cell) : tf31.run [⟨35, [(.st .cell), (.st .cell)], (.st .cell), fun x => F35 x.1 x.2, false, []⟩,
  ⟨52, [(.st .cell)], .err, fun x => F52 x, false, []⟩] [(.st .cell), (.st .cell), (.fnc 35 [])] (.tp [(.st .cell), .err]) (a0, a1, ()) = S31_35 F35 F52 a0 a1 := by kernel_rfl
noncomputable def P31_35 (a0 : Cell) (a1 : Cell) : Option (Cell × Err) := S31_35 P35 P52 a0 a1
noncomputable def k31_35 : CSpec := ⟨31, [(.st .cell), (.st .cell), (.fnc 35 [])], (.tp [(.st .cell), .err]), fun x => P31_35 x.1 x.2.1, false, []⟩
theorem r31_35 {S : Seat} (h : Ok1 S 31 tf31) (h35 : Rt S k35) (h52 : Rt S k52) : Rt S k31_35 := fun x y hy =>
  Ok1.sound h (C := [k35, k52]) (CSound.cons h35 (CSound.cons h52 CSound.nil)) rfl rfl rfl ((s31_35 P35 P52 x.1 x.2.1).trans hy) rfl

/- tallyhall/cell.Div -/
def tc11 : TCode :=
  .seq (.region [
  ⟨some 2, .box (.t 0), none, []⟩,
  ⟨some 3, .box (.t 1), none, []⟩,
  ⟨some 4, .alloc [.int .i64 0, .int .i64 0], none, []⟩,
  ⟨some 5, .mov (.c (.nilIface)), none, []⟩] [] false)
  (.seq (.region [
  ⟨some 6, .load (some 2) (.t 2), none, []⟩,
  ⟨some 7, .load (some 2) (.t 3), none, []⟩,
  ⟨some 8, .call false [] 31 [(.t 6), (.t 7), (.f 35)], none, []⟩,
  ⟨some 9, .ext (.t 8) 0, none, []⟩,
  ⟨some 10, .ext (.t 8) 1, none, []⟩,
  ⟨none, .store 2 (.t 4) (.t 9), none, []⟩,
  ⟨some 5, .mov (.t 10), none, []⟩] [] false)
  (.ret))
def tf11 : TFunc := { np := 2, nt := 11, res := [.cell 4 (some 2), .tmp 5], own := false, body := tc11 }
noncomputable def S11 (F31_35 : Cell → Cell → (Option (Cell × Err))) (a0 : Cell) (a1 : Cell) : Option (Cell × Err) :=
  bno (F31_35 a0 a1) fun y1 =>
  some (y1.1, y1.2)
theorem s11 (F31_35 : Cell → Cell → (Option (Cell × Err))) (a0 : Cell) (a1 : Cell) : tf11.run [⟨31, [(.st .cell), (.st .cell), (.fnc 35 [])], (.tp [(.st .cell), .err]), fun x => F31_35 x.1 x.2.1, false, []⟩] [(.st .cell), (.st .cell)] (.tp [(.st .cell), .err]) (a0, a1) = S11 F31_35 a0 a1 := by kernel_rfl
noncomputable def P11 (a0 : Cell) (a1 : Cell) : Option (Cell × Err) := S11 P31_35 a0 a1
noncomputable def k11 : CSpec := ⟨11, [(.st .cell), (.st .cell)], (.tp [(.st .cell), .err]), fun x => P11 x.1 x.2, false, []⟩
theorem r11 {S : Seat} (h : Ok1 S 11 tf11) (h31_35 : Rt S k31_35) : Rt S k11 := fun x y hy =>
  Ok1.sound h (C := [k31_35]) (CSound.cons h31_35 CSound.nil) rfl rfl rfl ((s11 P31_35 x.1 x.2).trans hy) rfl

/- tallyhall/cell.Sub$1 -/
def tc36 : TCode :=
  .seq (.region [
  ⟨some 2, .box (.t 0), none, []⟩,
  ⟨some 3, .box (.t 1), none, []⟩,
  ⟨some 4, .alloc [.int .i64 0, .int .i64 0], none, []⟩] [] false)
  (.seq (.region [
  ⟨some 5, .load (some 2) (.t 2), none, []⟩,
  ⟨some 6, .load (some 2) (.t 3), none, []⟩,
  ⟨some 7, .call false [] 33 [(.t 5), (.t 6), (.c (.int .i64 (-1)))], none, []⟩,
  ⟨none, .store 2 (.t 4) (.t 7), none, []⟩] [] false)
  (.ret))
def tf36 : TFunc := { np := 2, nt := 8, res := [.cell 4 (some 2)], own := false, body := tc36 }
noncomputable def S36 (F33 : Cell → Cell → Int → (Option Cell)) (a0 : Cell) (a1 : Cell) : Option Cell :=
  bno (F33 a0 a1 (-1 : Int)) fun y1 =>
  some y1
theorem s36 (F33 : Cell → Cell → Int → (Option Cell)) (a0 : Cell) (a1 : Cell) : tf36.run [⟨33, [(.st .cell), (.st .cell), .int], (.st .cell), fun x => F33 x.1 x.2.1 x.2.2, false, []⟩] [(.st .cell), (.st .cell)] (.st .cell) (a0, a1) = S36 F33 a0 a1 := by kernel_rfl
noncomputable def P36 (a0 : Cell) (a1 : Cell) : Option Cell := S36 P33 a0 a1
noncomputable def k36 : CSpec := ⟨36, [(.st .cell), (.st .cell)], (.st .cell), fun x => P36 x.1 x.2, false, []⟩
theorem r36 {S : Seat} (h : Ok1 S 36 tf36) (h33 : Rt S k33) : Rt S k36 := fun x y hy =>
  Ok1.sound h (C := [k33]) (CSound.cons h33 CSound.nil) rfl rfl rfl ((s36 P33 x.1 x.2).trans hy) rfl

noncomputable def S31_36 (F36 : Cell → Cell → (Option Cell)) (F52 : Cell → (Option Err)) (a0 : Cell) (a1 : Cell) : Option (Cell × Err) :=
  bno (F52 a0) fun y1 =>
  br (!(Err.isNil y1))
  (some (Cell.mk (0 : Int) (0 : Int), y1))
  (bno (F52 a1) fun y2 =>
  br (!(Err.isNil y2))
  (some (Cell.mk (0 : Int) (0 : Int), y2))
  (bno (F36 a0 a1) fun y3 =>
  some (y3, Err.nil)))
theorem s31_36 (F36 : Cell → Cell → (Option Cell)) (F52 : Cell → (Option Err)) (a0 : Cell) (a1 : Cell) : tf31.run [⟨36, [(.st .cell), (.st .cell)], (.st .cell), fun x => F36 x.1 x.2, false, []⟩,
  ⟨52, [(.st .cell)], .err, fun x => F52 x, false, []⟩] [(.st .cell), (.st .cell), (.fnc 36 [])] (.tp [(.st .cell), .err]) (a0, a1, ()) = S31_36 F36 F52 a0 a1 := by kernel_rfl
noncomputable def P31_36 (a0 : Cell) (a1 : Cell) : Option (Cell × Err) := S31_36 P36 P52 a0 a1
noncomputable def k31_36 : CSpec := ⟨31, [(.st .cell), (.st .cell), (.fnc 36 [])], (.tp [(.st .cell), .err]), fun x => P31_36 x.1 x.2.1, false, []⟩
theorem r31_36 {S : Seat} (h : Ok1 S 31 tf31) (h36 : Rt S k36) (h52 : Rt S k52) : Rt S k31_36 := fun x y hy =>
  Ok1.sound h (C := [k36, k52]) (CSound.cons h36 (CSound.cons h52 CSound.nil)) rfl rfl rfl ((s31_36 P36 P52 x.1 x.2.1).trans hy) rfl

/- tallyhall/cell.Sub -/
def tc12 : TCode :=
  .seq (.region [
  ⟨some 2, .box (.t 0), none, []⟩,
  ⟨some 3, .box (.t 1), none, []⟩,
  ⟨some 4, .alloc [.int .i64 0, .int .i64 0], none, []⟩,
  ⟨some 5, .mov (.c (.nilIface)), none, []⟩] [] false)
  (.seq (.region [
  ⟨some 6, .load (some 2) (.t 2), none, []⟩,
  ⟨some 7, .load (some 2) (.t 3), none, []⟩,
  ⟨some 8, .call false [] 31 [(.t 6), (.t 7), (.f 36)], none, []⟩,
  ⟨some 9, .ext (.t 8) 0, none, []⟩,
  ⟨some 10, .ext (.t 8) 1, none, []⟩,
  ⟨none, .store 2 (.t 4) (.t 9), none, []⟩,
  ⟨some 5, .mov (.t 10), none, []⟩] [] false)
  (.ret))
def tf12 : TFunc := { np := 2, nt := 11, res := [.cell 4 (some 2), .tmp 5], own := false, body := tc12 }
noncomputable def S12 (F31_36 : Cell → Cell → (Option (Cell × Err))) (a0 : Cell) (a1 : Cell) : Option (Cell × Err) :=
  bno (F31_36 a0 a1) fun y1 =>
  some (y1.1, y1.2)
theorem s12 (F31_36 : Cell → Cell → (Option (Cell × Err))) (a0 : Cell) (a1 : Cell) : tf12.run [⟨31, [(.st .cell), (.st .cell), (.fnc 36 [])], (.tp [(.st .cell), .err]), fun x => F31_36 x.1 x.2.1, false, []⟩] [(.st .cell), (.st .cell)] (.tp [(.st .cell), .err]) (a0, a1) = S12 F31_36 a0 a1 := by kernel_rfl
noncomputable def P12 (a0 : Cell) (a1 : Cell) : Option (Cell × Err) := S12 P31_36 a0 a1
noncomputable def k12 : CSpec := ⟨12, [(.st .cell), (.st .cell)], (.tp [(.st .cell), .err]), fun x => P12 x.1 x.2, false, []⟩
theorem r12 {S : Seat} (h : Ok1 S 12 tf12) (h31_36 : Rt S k31_36) : Rt S k12 := fun x y hy =>
  Ok1.sound h (C := [k31_36]) (CSound.cons h31_36 CSound.nil) rfl rfl rfl ((s12 P31_36 x.1 x.2).trans hy) rfl

end Ab
