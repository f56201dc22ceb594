/-
  Functions of the program as typed code, what they come to, and their contracts: written by program (mk.py).
-/
import Derived.Test.YtcabflannjeigaaDoorB2
import Derived.KernelRfl
import Derived.Test.YtcabflannjeigaaDoorMC
import Derived.Test.YtcabflannjeigaaDoorMFm
namespace Ab
open Go
set_option linter.unusedVariables false
set_option maxRecDepth 100000

/- slices.Index[[]string,string] -/
def tc300 : TCode :=
  .seq (.region [
  ⟨some 4, .mov (.c (.int .i64 0)), none, []⟩] [] false)
  (.seq (.seq (.region [
  ⟨some 6, .mov (.t 0), none, []⟩,
  ⟨some 7, .len false (.t 6), none, []⟩,
  ⟨some 8, .mov (.c (.int .i64 0)), none, []⟩] [] false)
  (.loop ⟨[.slot 8 .int], [5, 9, 10, 11, 12, 13, 14, 15, 16, 18], [], []⟩ 0 (.seq (.region [
  ⟨some 9, .bin .int .lss (.t 8) (.t 7), none, []⟩] [] false)
    (.seq (.cond (.t 9)
      (.skip)
      (.exit 0))
    (.seq (.block 1 (.seq (.region [
  ⟨some 10, .mov (.t 8), none, []⟩,
  ⟨some 5, .mov (.t 10), none, []⟩] [] false)
      (.seq (.region [
  ⟨some 11, .mov (.t 1), none, []⟩,
  ⟨some 12, .mov (.t 0), none, []⟩,
  ⟨some 13, .mov (.t 5), none, []⟩,
  ⟨some 14, .ia 1 (.t 12) (.t 13), none, []⟩,
  ⟨some 15, .load none (.t 14), none, []⟩,
  ⟨some 16, .bin .str .eql (.t 11) (.t 15), none, []⟩] [] false)
      (.cond (.t 16)
        (.seq (.region [
  ⟨some 17, .mov (.t 5), none, []⟩,
  ⟨some 4, .mov (.t 17), none, []⟩] [] false)
        (.ret))
        (.skip)))))
    (.region [
  ⟨some 18, .bin .int .add (.t 8) (.c (.int .i64 1)), none, []⟩,
  ⟨some 8, .mov (.t 18), none, []⟩] [] false))))))
  (.seq (.region [
  ⟨some 4, .mov (.c (.int .i64 (-1))), none, []⟩] [] false)
  (.ret)))
def tf300 : TFunc := { np := 2, nt := 19, res := [.tmp 4], own := false, body := tc300 }
noncomputable def S300_L1 (a0 : (List ByteArray)) (a1 : ByteArray) (x1 : Int) : Option (LR Int Int) :=
  br (decide (x1 < ((List.length a0 : Nat) : Int)))
  (bno (lookI a0 x1) fun y2 =>
  br (decide (a1 = y2))
  (finO (some x1))
  (nxO (some (wi (x1 + (1 : Int))))))
  (dnO (some x1))
noncomputable def S300 (a0 : (List ByteArray)) (a1 : ByteArray) : Option Int :=
  lp (S300_L1 a0 a1) (0 : Int) fun x3 =>
  some (-1 : Int)
theorem s300 (a0 : (List ByteArray)) (a1 : ByteArray) : tf300.run [] [(.sl .str), .str] .int (a0, a1) = S300 a0 a1 := by kernel_rfl
noncomputable def P300 (a0 : (List ByteArray)) (a1 : ByteArray) : Option Int := S300 a0 a1
noncomputable def k300 : CSpec := ⟨300, [(.sl .str), .str], .int, fun x => P300 x.1 x.2, false, []⟩
theorem r300 {S : Seat} (h : Ok1 S 300 tf300) : Rt S k300 := fun x y hy =>
  Ok1.sound h (C := []) CSound.nil rfl rfl rfl ((s300 x.1 x.2).trans hy) rfl

/- slices.Contains[[]string,string] -/
def tc297 : TCode :=
  .seq (.region [
  ⟨some 4, .mov (.c (.bool false)), none, []⟩] [] false)
  (.seq (.region [
  ⟨some 5, .mov (.t 0), none, []⟩,
  ⟨some 6, .mov (.t 1), none, []⟩,
  ⟨some 7, .call false [] 300 [(.t 5), (.t 6)], none, []⟩,
  ⟨some 8, .bin .int .geq (.t 7) (.c (.int .i64 0)), none, []⟩,
  ⟨some 4, .mov (.t 8), none, []⟩] [] false)
  (.ret))
def tf297 : TFunc := { np := 2, nt := 9, res := [.tmp 4], own := false, body := tc297 }
noncomputable def S297 (F300 : (List ByteArray) → ByteArray → (Option Int)) (a0 : (List ByteArray)) (a1 : ByteArray) : Option Bool :=
  bno (F300 a0 a1) fun y1 =>
  some (decide ((0 : Int) ≤ y1))
theorem s297 (F300 : (List ByteArray) → ByteArray → (Option Int)) (a0 : (List ByteArray)) (a1 : ByteArray) : tf297.run [⟨300, [(.sl .str), .str], .int, fun x => F300 x.1 x.2, false, []⟩] [(.sl .str), .str] .bool (a0, a1) = S297 F300 a0 a1 := by kernel_rfl
noncomputable def P297 (a0 : (List ByteArray)) (a1 : ByteArray) : Option Bool := S297 P300 a0 a1
noncomputable def k297 : CSpec := ⟨297, [(.sl .str), .str], .bool, fun x => P297 x.1 x.2, false, []⟩
theorem r297 {S : Seat} (h : Ok1 S 297 tf297) (h300 : Rt S k300) : Rt S k297 := fun x y hy =>
  Ok1.sound h (C := [k300]) (CSound.cons h300 CSound.nil) rfl rfl rfl ((s297 P300 x.1 x.2).trans hy) rfl

/- tallyhall/reckon.Value$1 -/
def tc299 : TCode :=
  .seq (.region [
  ⟨some 4, .alloc [.int .i64 0, .int .i64 0], none, []⟩] [] false)
  (.seq (.region [
  ⟨some 5, .load none (.t 1), none, []⟩,
  ⟨some 6, .load none (.t 2), none, []⟩,
  ⟨some 7, .mov (.t 0), none, []⟩,
  ⟨some 8, .call false [] 300 [(.t 6), (.t 7)], none, [1, 2]⟩,
  ⟨some 9, .ia 2 (.t 5) (.t 8), none, [0, 3]⟩,
  ⟨some 10, .load (some 2) (.t 9), none, [4]⟩,
  ⟨none, .store 2 (.t 4) (.t 10), none, [5, 3, 0, 1, 2, 3, 4, 5]⟩] [] true)
  (.ret))
def tf299 : TFunc := { np := 3, nt := 11, res := [.cell 4 (some 2)], own := false, body := tc299 }
noncomputable def S299 (F300 : (List ByteArray) → ByteArray → (Option Int)) (a0 : ByteArray) (a1 : (List Cell)) (a2 : (List ByteArray)) : Option Cell :=
  bno (F300 a2 a0) fun y1 =>
  bno (lookI a1 y1) fun y2 =>
  some y2
theorem s299 (F300 : (List ByteArray) → ByteArray → (Option Int)) (a0 : ByteArray) (a1 : (List Cell)) (a2 : (List ByteArray)) : tf299.run [⟨300, [(.sl .str), .str], .int, fun x => F300 x.1 x.2, false, []⟩] [.str, (.bx (.sl .cell)), (.bx (.sl .str))] (.st .cell) (a0, a1, a2) = S299 F300 a0 a1 a2 := by kernel_rfl
noncomputable def P299 (a0 : ByteArray) (a1 : (List Cell)) (a2 : (List ByteArray)) : Option Cell := S299 P300 a0 a1 a2
noncomputable def k299 : CSpec := ⟨299, [.str, (.bx (.sl .cell)), (.bx (.sl .str))], (.st .cell), fun x => P299 x.1 x.2.1 x.2.2, false, []⟩
theorem r299 {S : Seat} (h : Ok1 S 299 tf299) (h300 : Rt S k300) : Rt S k299 := fun x y hy =>
  Ok1.sound h (C := [k300]) (CSound.cons h300 CSound.nil) rfl rfl rfl ((s299 P300 x.1 x.2.1 x.2.2).trans hy) rfl

/- tallyhall/reckon.By -/
def tc298 : TCode :=
  .seq (.region [
  ⟨some 4, .alloc [.int .i64 0, .int .i64 0], none, []⟩] [] false)
  (.seq (.region [
  ⟨some 8, .mov (.t 0), none, []⟩,
  ⟨some 9, .len false (.t 8), none, []⟩,
  ⟨some 10, .mksl 2 [.int .i64 0, .int .i64 0] (.t 9) (.t 9), none, []⟩,
  ⟨some 5, .mov (.t 10), none, []⟩] [.int, .int, .cell] false)
  (.seq (.seq (.region [
  ⟨some 11, .mov (.t 0), none, []⟩,
  ⟨some 12, .len false (.t 11), none, []⟩,
  ⟨some 13, .mov (.c (.int .i64 0)), none, []⟩] [] false)
  (.loop ⟨[.slot 13 .int, .rowH 10 .cell], [6, 7, 14, 15, 16, 17, 18, 19, 20, 21, 22, 23, 24, 25, 26, 27, 28, 29, 30, 31, 32, 33, 34, 35, 36, 37, 38, 39, 40, 41, 42, 43, 44, 45, 46, 47, 48, 49, 50, 51, 52, 53, 54, 55, 56, 57, 58, 59, 60, 61, 62, 63, 64, 65, 66, 67, 68, 69, 70, 71, 72, 73, 74, 75, 76, 77, 78, 79, 80, 81, 82, 83, 84, 85, 86, 87, 88, 89, 90, 91, 92, 93, 94, 95, 96, 97, 98, 99], [7], []⟩ 0 (.seq (.region [
  ⟨some 14, .bin .int .lss (.t 13) (.t 12), none, []⟩] [] false)
    (.seq (.cond (.t 14)
      (.skip)
      (.exit 0))
    (.seq (.block 1 (.seq (.region [
  ⟨some 15, .mov (.t 13), none, []⟩,
  ⟨some 16, .ia 5 (.t 11) (.t 13), none, []⟩,
  ⟨some 17, .load (some 5) (.t 16), none, []⟩,
  ⟨some 7, .alloc [.int .i64 0, .int .i64 0, .string ⟨#[]⟩, .int .i64 0, .int .i64 0], none, []⟩,
  ⟨some 6, .mov (.t 15), none, []⟩,
  ⟨none, .store 5 (.t 7) (.t 17), none, []⟩] [] false)
      (.seq (.region [
  ⟨some 18, .fa 0 (.t 7), none, []⟩,
  ⟨some 19, .load none (.t 18), none, []⟩] [] false)
      (.block 2 (.seq (.region [
  ⟨some 35, .bin .int .eql (.t 19) (.c (.int .i64 1)), none, []⟩,
  ⟨some 34, .mov (.t 35), none, []⟩] [] false)
        (.condJ ⟨[.rowH 10 .cell], [20, 21, 22, 23, 24, 25, 26, 27, 28, 29, 30, 31, 32, 33, 36, 37, 38, 39, 40, 41, 42, 43, 44, 45, 46, 47, 48, 49, 50, 51, 52, 53, 54, 55, 56, 57, 58, 59, 60, 61, 62, 63, 64, 65, 66, 67, 68, 69, 70, 71, 72, 73, 74, 75, 76, 77, 78, 79, 80, 81, 82, 83, 84, 85, 86, 87, 88, 89, 90, 91, 92, 93, 94, 95, 96, 97, 98], [], []⟩ (.t 34)
          (.region [
  ⟨some 36, .mov (.t 5), none, []⟩,
  ⟨some 37, .mov (.t 6), none, []⟩,
  ⟨some 38, .fa 1 (.t 7), none, []⟩,
  ⟨some 39, .load none (.t 38), none, []⟩,
  ⟨some 40, .call false [] 8 [(.t 39)], none, []⟩,
  ⟨some 41, .ia 2 (.t 36) (.t 37), none, []⟩,
  ⟨none, .store 2 (.t 41) (.t 40), none, []⟩] [] false)
          (.seq (.region [
  ⟨some 43, .bin .int .eql (.t 19) (.c (.int .i64 2)), none, []⟩,
  ⟨some 42, .mov (.t 43), none, []⟩] [] false)
          (.condJ ⟨[.rowH 10 .cell], [20, 21, 22, 23, 24, 25, 26, 27, 28, 29, 30, 31, 32, 33, 44, 45, 46, 47, 48, 49, 50, 51, 52, 53, 54, 55, 56, 57, 58, 59, 60, 61, 62, 63, 64, 65, 66, 67, 68, 69, 70, 71, 72, 73, 74, 75, 76, 77, 78, 79, 80, 81, 82, 83, 84, 85, 86, 87, 88, 89, 90, 91, 92, 93, 94, 95, 96, 97, 98], [], []⟩ (.t 42)
            (.region [
  ⟨some 44, .mov (.t 5), none, []⟩,
  ⟨some 45, .mov (.t 6), none, []⟩,
  ⟨some 46, .mov (.t 1), none, []⟩,
  ⟨some 47, .fa 2 (.t 7), none, []⟩,
  ⟨some 48, .load none (.t 47), none, []⟩,
  ⟨some 49, .calld false (.t 46) [(.t 48)], none, []⟩,
  ⟨some 50, .ia 2 (.t 44) (.t 45), none, []⟩,
  ⟨none, .store 2 (.t 50) (.t 49), none, []⟩] [] false)
            (.seq (.region [
  ⟨some 52, .bin .int .eql (.t 19) (.c (.int .i64 3)), none, []⟩,
  ⟨some 51, .mov (.t 52), none, []⟩] [] false)
            (.condJ ⟨[.rowH 10 .cell], [20, 21, 22, 23, 24, 25, 26, 27, 28, 29, 30, 31, 32, 33, 53, 54, 55, 56, 57, 58, 59, 60, 61, 62, 63, 64, 65, 66, 67, 68, 69, 70, 71, 72, 73, 74, 75, 76, 77, 78, 79, 80, 81, 82, 83, 84, 85, 86, 87, 88, 89, 90, 91, 92, 93, 94, 95, 96, 97, 98], [], []⟩ (.t 51)
              (.region [
  ⟨some 53, .mov (.t 5), none, []⟩,
  ⟨some 54, .mov (.t 6), none, []⟩,
  ⟨some 55, .mov (.t 5), none, []⟩,
  ⟨some 56, .fa 3 (.t 7), none, []⟩,
  ⟨some 57, .load none (.t 56), none, [3]⟩,
  ⟨some 58, .ia 2 (.t 55) (.t 57), none, [2, 4]⟩,
  ⟨some 59, .load (some 2) (.t 58), none, [5]⟩,
  ⟨some 60, .mov (.t 5), none, []⟩,
  ⟨some 61, .fa 4 (.t 7), none, []⟩,
  ⟨some 62, .load none (.t 61), none, [8]⟩,
  ⟨some 63, .ia 2 (.t 60) (.t 62), none, [7, 9]⟩,
  ⟨some 64, .load (some 2) (.t 63), none, [10]⟩,
  ⟨some 65, .call false [] 33 [(.t 59), (.t 64), (.c (.int .i64 1))], none, [6, 11]⟩,
  ⟨some 66, .ia 2 (.t 53) (.t 54), none, [0, 1, 0, 1, 2, 3, 4, 5, 6, 7, 8, 9, 10, 11, 12]⟩,
  ⟨none, .store 2 (.t 66) (.t 65), none, [13, 12, 12, 0, 1, 2, 3, 4, 5, 6, 7, 8, 9, 10, 11, 12]⟩] [] true)
              (.seq (.region [
  ⟨some 68, .bin .int .eql (.t 19) (.c (.int .i64 4)), none, []⟩,
  ⟨some 67, .mov (.t 68), none, []⟩] [] false)
              (.condJ ⟨[.rowH 10 .cell], [20, 21, 22, 23, 24, 25, 26, 27, 28, 29, 30, 31, 32, 33, 69, 70, 71, 72, 73, 74, 75, 76, 77, 78, 79, 80, 81, 82, 83, 84, 85, 86, 87, 88, 89, 90, 91, 92, 93, 94, 95, 96, 97, 98], [], []⟩ (.t 67)
                (.region [
  ⟨some 69, .mov (.t 5), none, []⟩,
  ⟨some 70, .mov (.t 6), none, []⟩,
  ⟨some 71, .mov (.t 5), none, []⟩,
  ⟨some 72, .fa 3 (.t 7), none, []⟩,
  ⟨some 73, .load none (.t 72), none, [3]⟩,
  ⟨some 74, .ia 2 (.t 71) (.t 73), none, [2, 4]⟩,
  ⟨some 75, .load (some 2) (.t 74), none, [5]⟩,
  ⟨some 76, .mov (.t 5), none, []⟩,
  ⟨some 77, .fa 4 (.t 7), none, []⟩,
  ⟨some 78, .load none (.t 77), none, [8]⟩,
  ⟨some 79, .ia 2 (.t 76) (.t 78), none, [7, 9]⟩,
  ⟨some 80, .load (some 2) (.t 79), none, [10]⟩,
  ⟨some 81, .call false [] 33 [(.t 75), (.t 80), (.c (.int .i64 (-1)))], none, [6, 11]⟩,
  ⟨some 82, .ia 2 (.t 69) (.t 70), none, [0, 1, 0, 1, 2, 3, 4, 5, 6, 7, 8, 9, 10, 11, 12]⟩,
  ⟨none, .store 2 (.t 82) (.t 81), none, [13, 12, 12, 0, 1, 2, 3, 4, 5, 6, 7, 8, 9, 10, 11, 12]⟩] [] true)
                (.seq (.region [
  ⟨some 84, .bin .int .eql (.t 19) (.c (.int .i64 5)), none, []⟩,
  ⟨some 83, .mov (.t 84), none, []⟩] [] false)
                (.condJ ⟨[.rowH 10 .cell], [20, 21, 22, 23, 24, 25, 26, 27, 28, 29, 30, 31, 32, 33, 85, 86, 87, 88, 89, 90, 91, 92, 93, 94, 95, 96, 97, 98], [], []⟩ (.t 83)
                  (.region [
  ⟨some 85, .mov (.t 5), none, []⟩,
  ⟨some 86, .mov (.t 6), none, []⟩,
  ⟨some 87, .mov (.t 5), none, []⟩,
  ⟨some 88, .fa 3 (.t 7), none, []⟩,
  ⟨some 89, .load none (.t 88), none, [3]⟩,
  ⟨some 90, .ia 2 (.t 87) (.t 89), none, [2, 4]⟩,
  ⟨some 91, .load (some 2) (.t 90), none, [5]⟩,
  ⟨some 92, .mov (.t 5), none, []⟩,
  ⟨some 93, .fa 4 (.t 7), none, []⟩,
  ⟨some 94, .load none (.t 93), none, [8]⟩,
  ⟨some 95, .ia 2 (.t 92) (.t 94), none, [7, 9]⟩,
  ⟨some 96, .load (some 2) (.t 95), none, [10]⟩,
  ⟨some 97, .call false [] 34 [(.t 91), (.t 96)], none, [6, 11]⟩,
  ⟨some 98, .ia 2 (.t 85) (.t 86), none, [0, 1, 0, 1, 2, 3, 4, 5, 6, 7, 8, 9, 10, 11, 12]⟩,
  ⟨none, .store 2 (.t 98) (.t 97), none, [13, 12, 12, 0, 1, 2, 3, 4, 5, 6, 7, 8, 9, 10, 11, 12]⟩] [] true)
                  (.region [
  ⟨some 20, .mov (.t 5), none, []⟩,
  ⟨some 21, .mov (.t 6), none, []⟩,
  ⟨some 22, .mov (.t 5), none, []⟩,
  ⟨some 23, .fa 3 (.t 7), none, []⟩,
  ⟨some 24, .load none (.t 23), none, [3]⟩,
  ⟨some 25, .ia 2 (.t 22) (.t 24), none, [2, 4]⟩,
  ⟨some 26, .load (some 2) (.t 25), none, [5]⟩,
  ⟨some 27, .mov (.t 5), none, []⟩,
  ⟨some 28, .fa 4 (.t 7), none, []⟩,
  ⟨some 29, .load none (.t 28), none, [8]⟩,
  ⟨some 30, .ia 2 (.t 27) (.t 29), none, [7, 9]⟩,
  ⟨some 31, .load (some 2) (.t 30), none, [10]⟩,
  ⟨some 32, .call false [] 35 [(.t 26), (.t 31)], none, [6, 11]⟩,
  ⟨some 33, .ia 2 (.t 20) (.t 21), none, [0, 1, 0, 1, 2, 3, 4, 5, 6, 7, 8, 9, 10, 11, 12]⟩,
  ⟨none, .store 2 (.t 33) (.t 32), none, [13, 12, 12, 0, 1, 2, 3, 4, 5, 6, 7, 8, 9, 10, 11, 12]⟩] [] true)))))))))))))))
    (.region [
  ⟨some 99, .bin .int .add (.t 13) (.c (.int .i64 1)), none, []⟩,
  ⟨some 13, .mov (.t 99), none, []⟩] [] false))))))
  (.seq (.region [
  ⟨some 100, .mov (.t 5), none, []⟩,
  ⟨some 101, .mov (.t 0), none, []⟩,
  ⟨some 102, .len false (.t 101), none, []⟩,
  ⟨some 103, .bin .int .sub (.t 102) (.c (.int .i64 1)), none, []⟩,
  ⟨some 104, .ia 2 (.t 100) (.t 103), none, []⟩,
  ⟨some 105, .load (some 2) (.t 104), none, []⟩,
  ⟨none, .store 2 (.t 4) (.t 105), none, []⟩] [] false)
  (.ret))))
def tf298 : TFunc := { np := 2, nt := 106, res := [.cell 4 (some 2)], own := false, body := tc298 }
noncomputable def S298_299_L1 (F299 : ByteArray → (List Cell) → (List ByteArray) → (Option Cell)) (F33 : Cell → Cell → Int → (Option Cell)) (F34 : Cell → Cell → (Option Cell)) (F35 : Cell → Cell → (Option Cell)) (F8 : Int → (Option Cell)) (a0 : (List Node)) (a1 : ((List Cell) × (List ByteArray))) (x1 : (Int × (List Cell))) : Option (LR (Int × (List Cell)) Cell) :=
  br (decide (x1.1 < ((List.length a0 : Nat) : Int)))
  (bno (lookI a0 x1.1) fun y2 =>
  jn (σ := (List Cell)) (α := (LR (Int × (List Cell)) Cell)) (br (decide ((Node.op y2) = (1 : Int)))
  (bno (F8 (Node.n y2)) fun y3 =>
  ck (decide (0 ≤ x1.1 ∧ x1.1 < ((List.length x1.2 : Nat) : Int))) <|
  bno ((x1.2)[(Int.toNat x1.1)]?) fun y4 =>
  inlO (some (List.set x1.2 (Int.toNat x1.1) y3)))
  (jn (σ := (List Cell)) (α := (Sum (List Cell) (LR (Int × (List Cell)) Cell))) (br (decide ((Node.op y2) = (2 : Int)))
  (bno (F299 (Node.name y2) a1.1 a1.2) fun y5 =>
  ck (decide (0 ≤ x1.1 ∧ x1.1 < ((List.length x1.2 : Nat) : Int))) <|
  bno ((x1.2)[(Int.toNat x1.1)]?) fun y6 =>
  inlO (some (List.set x1.2 (Int.toNat x1.1) y5)))
  (jn (σ := (List Cell)) (α := (Sum (List Cell) (Sum (List Cell) (LR (Int × (List Cell)) Cell)))) (br (decide ((Node.op y2) = (3 : Int)))
  (ck (decide (0 ≤ Node.left y2 ∧ Node.left y2 < ((List.length x1.2 : Nat) : Int))) <|
  bno ((x1.2)[(Int.toNat (Node.left y2))]?) fun y7 =>
  ck (decide (0 ≤ Node.right y2 ∧ Node.right y2 < ((List.length x1.2 : Nat) : Int))) <|
  bno ((x1.2)[(Int.toNat (Node.right y2))]?) fun y8 =>
  bno (F33 y7 y8 (1 : Int)) fun y9 =>
  ck (decide (0 ≤ x1.1 ∧ x1.1 < ((List.length x1.2 : Nat) : Int))) <|
  bno ((x1.2)[(Int.toNat x1.1)]?) fun y10 =>
  inlO (some (List.set x1.2 (Int.toNat x1.1) y9)))
  (jn (σ := (List Cell)) (α := (Sum (List Cell) (Sum (List Cell) (Sum (List Cell) (LR (Int × (List Cell)) Cell))))) (br (decide ((Node.op y2) = (4 : Int)))
  (ck (decide (0 ≤ Node.left y2 ∧ Node.left y2 < ((List.length x1.2 : Nat) : Int))) <|
  bno ((x1.2)[(Int.toNat (Node.left y2))]?) fun y11 =>
  ck (decide (0 ≤ Node.right y2 ∧ Node.right y2 < ((List.length x1.2 : Nat) : Int))) <|
  bno ((x1.2)[(Int.toNat (Node.right y2))]?) fun y12 =>
  bno (F33 y11 y12 (-1 : Int)) fun y13 =>
  ck (decide (0 ≤ x1.1 ∧ x1.1 < ((List.length x1.2 : Nat) : Int))) <|
  bno ((x1.2)[(Int.toNat x1.1)]?) fun y14 =>
  inlO (some (List.set x1.2 (Int.toNat x1.1) y13)))
  (jn (σ := (List Cell)) (α := (Sum (List Cell) (Sum (List Cell) (Sum (List Cell) (Sum (List Cell) (LR (Int × (List Cell)) Cell)))))) (br (decide ((Node.op y2) = (5 : Int)))
  (ck (decide (0 ≤ Node.left y2 ∧ Node.left y2 < ((List.length x1.2 : Nat) : Int))) <|
  bno ((x1.2)[(Int.toNat (Node.left y2))]?) fun y15 =>
  ck (decide (0 ≤ Node.right y2 ∧ Node.right y2 < ((List.length x1.2 : Nat) : Int))) <|
  bno ((x1.2)[(Int.toNat (Node.right y2))]?) fun y16 =>
  bno (F34 y15 y16) fun y17 =>
  ck (decide (0 ≤ x1.1 ∧ x1.1 < ((List.length x1.2 : Nat) : Int))) <|
  bno ((x1.2)[(Int.toNat x1.1)]?) fun y18 =>
  inlO (some (List.set x1.2 (Int.toNat x1.1) y17)))
  (ck (decide (0 ≤ Node.left y2 ∧ Node.left y2 < ((List.length x1.2 : Nat) : Int))) <|
  bno ((x1.2)[(Int.toNat (Node.left y2))]?) fun y19 =>
  ck (decide (0 ≤ Node.right y2 ∧ Node.right y2 < ((List.length x1.2 : Nat) : Int))) <|
  bno ((x1.2)[(Int.toNat (Node.right y2))]?) fun y20 =>
  bno (F35 y19 y20) fun y21 =>
  ck (decide (0 ≤ x1.1 ∧ x1.1 < ((List.length x1.2 : Nat) : Int))) <|
  bno ((x1.2)[(Int.toNat x1.1)]?) fun y22 =>
  inlO (some (List.set x1.2 (Int.toNat x1.1) y21)))) fun x23 =>
  inlO (some x23))) fun x24 =>
  inlO (some x24))) fun x25 =>
  inlO (some x25))) fun x26 =>
  inlO (some x26))) fun x27 =>
  nxO (some (wi (x1.1 + (1 : Int)), x27)))
  (dnO (some (x1.1, x1.2)))
noncomputable def S298_299 (F299 : ByteArray → (List Cell) → (List ByteArray) → (Option Cell)) (F33 : Cell → Cell → Int → (Option Cell)) (F34 : Cell → Cell → (Option Cell)) (F35 : Cell → Cell → (Option Cell)) (F8 : Int → (Option Cell)) (a0 : (List Node)) (a1 : ((List Cell) × (List ByteArray))) : Option Cell :=
  ck (decide (0 ≤ ((List.length a0 : Nat) : Int) ∧ ((List.length a0 : Nat) : Int) ≤ ((List.length a0 : Nat) : Int) ∧ ((List.length a0 : Nat) : Int) ≤ roomA)) <|
  lp (S298_299_L1 F299 F33 F34 F35 F8 a0 a1) ((0 : Int), List.replicate (Int.toNat ((List.length a0 : Nat) : Int)) (Cell.mk (0 : Int) (0 : Int))) fun x28 =>
  ck (decide (0 ≤ wi (((List.length a0 : Nat) : Int) - (1 : Int)) ∧ wi (((List.length a0 : Nat) : Int) - (1 : Int)) < ((List.length x28.2 : Nat) : Int))) <|
  bno ((x28.2)[(Int.toNat (wi (((List.length a0 : Nat) : Int) - (1 : Int))))]?) fun y29 =>
  some y29
theorem s298_299 (F299 : ByteArray → (List Cell) → (List ByteArray) → (Option Cell)) (F33 : Cell → Cell → Int → (Option Cell)) (F34 : Cell → Cell → (Option Cell)) (F35 : Cell → Cell → (Option Cell)) (F8 : Int → (Option Cell)) (a0 : (List Node)) (a1 : ((List Cell) × (List ByteArray))) : tf298.run [⟨299, [.str, (.bx (.sl .cell)), (.bx (.sl .str))], (.st .cell), fun x => F299 x.1 x.2.1 x.2.2, false, []⟩,
  ⟨33, [(.st .cell), (.st .cell), .int], (.st .cell), fun x => F33 x.1 x.2.1 x.2.2, false, []⟩,
  ⟨34, [(.st .cell), (.st .cell)], (.st .cell), fun x => F34 x.1 x.2, false, []⟩,
  ⟨35, [(.st .cell), (.st .cell)], (.st .cell), fun x => F35 x.1 x.2, false, []⟩,
  ⟨8, [.int], (.st .cell), fun x => F8 x, false, []⟩] [(.sl .node), (.fnc 299 [(.bx (.sl .cell)), (.bx (.sl .str))])] (.st .cell) (a0, a1) = S298_299 F299 F33 F34 F35 F8 a0 a1 := by kernel_rfl
noncomputable def P298_299 (a0 : (List Node)) (a1 : ((List Cell) × (List ByteArray))) : Option Cell := S298_299 P299 P33 P34 P35 P8 a0 a1
noncomputable def k298_299 : CSpec := ⟨298, [(.sl .node), (.fnc 299 [(.bx (.sl .cell)), (.bx (.sl .str))])], (.st .cell), fun x => P298_299 x.1 x.2, false, []⟩
theorem r298_299 {S : Seat} (h : Ok1 S 298 tf298) (h299 : Rt S k299) (h33 : Rt S k33) (h34 : Rt S k34) (h35 : Rt S k35) (h8 : Rt S k8) : Rt S k298_299 := fun x y hy =>
  Ok1.sound h (C := [k299, k33, k34, k35, k8]) (CSound.cons h299 (CSound.cons h33 (CSound.cons h34 (CSound.cons h35 (CSound.cons h8 CSound.nil))))) rfl rfl rfl ((s298_299 P299 P33 P34 P35 P8 x.1 x.2).trans hy) rfl

/- tallyhall/reckon.Value -/
def tc293 : TCode :=
  .seq (.region [
  ⟨some 4, .box (.t 1), none, []⟩,
  ⟨some 5, .box (.t 2), none, []⟩,
  ⟨some 6, .alloc [.int .i64 0, .int .i64 0], none, []⟩,
  ⟨some 7, .mov (.c (.nilIface)), none, []⟩] [] false)
  (.seq (.region [
  ⟨some 17, .mov (.t 0), none, []⟩,
  ⟨some 18, .call true [] 245 [(.t 17)], none, []⟩,
  ⟨some 16, .mov (.t 18), none, []⟩,
  ⟨some 19, .ext (.t 16) 0, none, []⟩,
  ⟨some 20, .ext (.t 16) 1, none, []⟩,
  ⟨some 8, .mov (.t 19), none, []⟩,
  ⟨some 9, .mov (.t 20), none, []⟩] [] false)
  (.seq (.seq (.region [
  ⟨some 21, .mov (.t 9), none, []⟩,
  ⟨some 22, .eqn false true (.t 21), none, []⟩] [] false)
  (.cond (.t 22)
    (.seq (.region [
  ⟨some 23, .build [.int .i64 0, .int .i64 0] [], none, []⟩,
  ⟨some 24, .mov (.t 9), none, []⟩,
  ⟨none, .store 2 (.t 6) (.t 23), none, []⟩,
  ⟨some 7, .mov (.t 24), none, []⟩] [] false)
    (.ret))
    (.skip)))
  (.seq (.seq (.region [
  ⟨some 25, .load none (.t 4), none, []⟩,
  ⟨some 26, .len false (.t 25), none, []⟩,
  ⟨some 27, .load none (.t 5), none, []⟩,
  ⟨some 28, .len false (.t 27), none, []⟩,
  ⟨some 29, .bin .int .neq (.t 26) (.t 28), none, []⟩] [] false)
  (.cond (.t 29)
    (.seq (.region [
  ⟨some 30, .build [.int .i64 0, .int .i64 0] [], none, []⟩,
  ⟨some 31, .ifc 1 (.c (.int .i64 3)), none, []⟩,
  ⟨none, .store 2 (.t 6) (.t 30), none, []⟩,
  ⟨some 7, .mov (.t 31), none, []⟩] [] false)
    (.ret))
    (.skip)))
  (.seq (.seq (.region [
  ⟨some 32, .load none (.t 5), none, []⟩,
  ⟨some 33, .len false (.t 32), none, []⟩,
  ⟨some 34, .mov (.c (.int .i64 0)), none, []⟩] [] false)
  (.loop ⟨[.slot 34 .int], [11, 12, 35, 36, 37, 38, 39, 40, 41, 44], [11], []⟩ 0 (.seq (.region [
  ⟨some 35, .bin .int .lss (.t 34) (.t 33), none, []⟩] [] false)
    (.seq (.cond (.t 35)
      (.skip)
      (.exit 0))
    (.seq (.block 1 (.seq (.region [
  ⟨some 36, .ia 2 (.t 32) (.t 34), none, []⟩,
  ⟨some 37, .load (some 2) (.t 36), none, []⟩,
  ⟨some 11, .alloc [.int .i64 0, .int .i64 0], none, []⟩,
  ⟨none, .store 2 (.t 11) (.t 37), none, []⟩] [] false)
      (.seq (.region [
  ⟨some 38, .load (some 2) (.t 11), none, []⟩,
  ⟨some 39, .call false [] 52 [(.t 38)], none, []⟩,
  ⟨some 12, .mov (.t 39), none, []⟩] [] false)
      (.seq (.region [
  ⟨some 40, .mov (.t 12), none, []⟩,
  ⟨some 41, .eqn false true (.t 40), none, []⟩] [] false)
      (.cond (.t 41)
        (.seq (.region [
  ⟨some 42, .build [.int .i64 0, .int .i64 0] [], none, []⟩,
  ⟨some 43, .mov (.t 12), none, []⟩,
  ⟨none, .store 2 (.t 6) (.t 42), none, []⟩,
  ⟨some 7, .mov (.t 43), none, []⟩] [] false)
        (.ret))
        (.skip))))))
    (.region [
  ⟨some 44, .bin .int .add (.t 34) (.c (.int .i64 1)), none, []⟩,
  ⟨some 34, .mov (.t 44), none, []⟩] [] false))))))
  (.seq (.seq (.region [
  ⟨some 13, .mov (.c (.int .i64 1)), none, []⟩] [] false)
  (.loop ⟨[.slot 13 .int], [45, 46, 47, 48, 49, 50, 51, 52, 53, 54, 55, 56, 57, 58, 59, 60], [], []⟩ 2 (.seq (.seq (.region [
  ⟨some 45, .mov (.t 13), none, []⟩,
  ⟨some 46, .load none (.t 4), none, []⟩,
  ⟨some 47, .len false (.t 46), none, []⟩,
  ⟨some 48, .bin .int .lss (.t 45) (.t 47), none, []⟩] [] false)
    (.cond (.t 48)
      (.skip)
      (.exit 2)))
    (.seq (.block 3 (.seq (.region [
  ⟨some 51, .load none (.t 4), none, []⟩,
  ⟨some 52, .mov (.t 13), none, []⟩,
  ⟨some 53, .bin .int .sub (.t 52) (.c (.int .i64 1)), none, [1]⟩,
  ⟨some 54, .ia 1 (.t 51) (.t 53), none, [0, 2]⟩,
  ⟨some 55, .load none (.t 54), none, [3]⟩,
  ⟨some 56, .load none (.t 4), none, []⟩,
  ⟨some 57, .mov (.t 13), none, []⟩,
  ⟨some 58, .ia 1 (.t 56) (.t 57), none, [5, 6]⟩,
  ⟨some 59, .load none (.t 58), none, [7]⟩,
  ⟨some 60, .bin .str .geq (.t 55) (.t 59), none, [4, 8]⟩] [] true)
      (.cond (.t 60)
        (.seq (.region [
  ⟨some 61, .build [.int .i64 0, .int .i64 0] [], none, []⟩,
  ⟨some 62, .ifc 1 (.c (.int .i64 7)), none, []⟩,
  ⟨none, .store 2 (.t 6) (.t 61), none, []⟩,
  ⟨some 7, .mov (.t 62), none, []⟩] [] false)
        (.ret))
        (.skip))))
    (.region [
  ⟨some 49, .mov (.t 13), none, []⟩,
  ⟨some 50, .bin .int .add (.t 49) (.c (.int .i64 1)), none, []⟩,
  ⟨some 13, .mov (.t 50), none, []⟩] [] false)))))
  (.seq (.seq (.region [
  ⟨some 63, .mov (.t 8), none, []⟩,
  ⟨some 64, .len false (.t 63), none, []⟩,
  ⟨some 65, .mov (.c (.int .i64 0)), none, []⟩] [] false)
  (.loop ⟨[.slot 65 .int], [15, 66, 67, 68, 69, 70, 71, 72, 75], [], []⟩ 4 (.seq (.region [
  ⟨some 66, .bin .int .lss (.t 65) (.t 64), none, []⟩] [] false)
    (.seq (.cond (.t 66)
      (.skip)
      (.exit 4))
    (.seq (.block 5 (.seq (.region [
  ⟨some 67, .ia 1 (.t 63) (.t 65), none, []⟩,
  ⟨some 68, .load none (.t 67), none, []⟩,
  ⟨some 15, .mov (.t 68), none, []⟩] [] false)
      (.seq (.region [
  ⟨some 69, .load none (.t 4), none, []⟩,
  ⟨some 70, .mov (.t 15), none, []⟩,
  ⟨some 71, .call false [] 297 [(.t 69), (.t 70)], none, []⟩,
  ⟨some 72, .un .not (.t 71), none, []⟩] [] false)
      (.cond (.t 72)
        (.seq (.region [
  ⟨some 73, .build [.int .i64 0, .int .i64 0] [], none, []⟩,
  ⟨some 74, .ifc 1 (.c (.int .i64 5)), none, []⟩,
  ⟨none, .store 2 (.t 6) (.t 73), none, []⟩,
  ⟨some 7, .mov (.t 74), none, []⟩] [] false)
        (.ret))
        (.skip)))))
    (.region [
  ⟨some 75, .bin .int .add (.t 65) (.c (.int .i64 1)), none, []⟩,
  ⟨some 65, .mov (.t 75), none, []⟩] [] false))))))
  (.seq (.region [
  ⟨some 76, .mov (.t 0), none, []⟩,
  ⟨some 77, .mkfn 299 [(.t 5), (.t 4)], none, []⟩,
  ⟨some 78, .call false [] 298 [(.t 76), (.t 77)], none, []⟩,
  ⟨none, .store 2 (.t 6) (.t 78), none, []⟩,
  ⟨some 7, .mov (.c (.nilIface)), none, []⟩] [] false)
  (.ret))))))))
def tf293 : TFunc := { np := 3, nt := 79, res := [.cell 6 (some 2), .tmp 7], own := false, body := tc293 }
noncomputable def S293_L1 (F52 : Cell → (Option Err)) (a2 : (List Cell)) (x2 : Int) : Option (LR Int (Cell × Err)) :=
  br (decide (x2 < ((List.length a2 : Nat) : Int)))
  (bno (lookI a2 x2) fun y3 =>
  bno (F52 y3) fun y4 =>
  br (!(Err.isNil y4))
  (finO (some (Cell.mk (0 : Int) (0 : Int), y4)))
  (nxO (some (wi (x2 + (1 : Int))))))
  (dnO (some x2))
noncomputable def S293_L2 (a1 : (List ByteArray)) (x6 : Int) : Option (LR Int (Cell × Err)) :=
  br (decide (x6 < ((List.length a1 : Nat) : Int)))
  (bno (lookI a1 (wi (x6 - (1 : Int)))) fun y7 =>
  bno (lookI a1 x6) fun y8 =>
  br (!(Op.bytesLess (ByteArray.toList y7) (ByteArray.toList y8)))
  (finO (some (Cell.mk (0 : Int) (0 : Int), Err.no (7 : Int))))
  (nxO (some (wi (x6 + (1 : Int))))))
  (dnO (some x6))
noncomputable def S293_L3 (F297 : (List ByteArray) → ByteArray → (Option Bool)) (a1 : (List ByteArray)) (y1 : ((List ByteArray) × Err)) (x10 : Int) : Option (LR Int (Cell × Err)) :=
  br (decide (x10 < ((List.length y1.1 : Nat) : Int)))
  (bno (lookI y1.1 x10) fun y11 =>
  bno (F297 a1 y11) fun y12 =>
  br (!y12)
  (finO (some (Cell.mk (0 : Int) (0 : Int), Err.no (5 : Int))))
  (nxO (some (wi (x10 + (1 : Int))))))
  (dnO (some x10))
noncomputable def S293 (F245 : (List Node) → (Option ((List ByteArray) × Err))) (F297 : (List ByteArray) → ByteArray → (Option Bool)) (F298_299 : (List Node) → ((List Cell) × (List ByteArray)) → (Option Cell)) (F52 : Cell → (Option Err)) (a0 : (List Node)) (a1 : (List ByteArray)) (a2 : (List Cell)) : Option (Cell × Err) :=
  bno (F245 a0) fun y1 =>
  br (!(Err.isNil y1.2))
  (some (Cell.mk (0 : Int) (0 : Int), y1.2))
  (br (decide (¬ ((List.length a1 : Nat) : Int) = ((List.length a2 : Nat) : Int)))
  (some (Cell.mk (0 : Int) (0 : Int), Err.no (3 : Int)))
  (lp (S293_L1 F52 a2) (0 : Int) fun x5 =>
  lp (S293_L2 a1) (1 : Int) fun x9 =>
  lp (S293_L3 F297 a1 y1) (0 : Int) fun x13 =>
  bno (F298_299 a0 (a2, a1)) fun y14 =>
  some (y14, Err.nil)))
theorem s293 (F245 : (List Node) → (Option ((List ByteArray) × Err))) (F297 : (List ByteArray) → ByteArray → (Option Bool)) (F298_299 : (List Node) → ((List Cell) × (List ByteArray)) → (Option Cell)) (F52 : Cell → (Option Err)) (a0 : (List Node)) (a1 : (List ByteArray)) (a2 : (List Cell)) : tf293.run [⟨245, [(.sl .node)], (.tp [(.sl .str), .err]), fun x => F245 x, false, []⟩,
  ⟨297, [(.sl .str), .str], .bool, fun x => F297 x.1 x.2, false, []⟩,
  ⟨298, [(.sl .node), (.fnc 299 [(.bx (.sl .cell)), (.bx (.sl .str))])], (.st .cell), fun x => F298_299 x.1 x.2, false, []⟩,
  ⟨52, [(.st .cell)], .err, fun x => F52 x, false, []⟩] [(.sl .node), (.sl .str), (.sl .cell)] (.tp [(.st .cell), .err]) (a0, a1, a2) = S293 F245 F297 F298_299 F52 a0 a1 a2 := by kernel_rfl
noncomputable def P293 (a0 : (List Node)) (a1 : (List ByteArray)) (a2 : (List Cell)) : Option (Cell × Err) := S293 P245 P297 P298_299 P52 a0 a1 a2
noncomputable def k293 : CSpec := ⟨293, [(.sl .node), (.sl .str), (.sl .cell)], (.tp [(.st .cell), .err]), fun x => P293 x.1 x.2.1 x.2.2, false, []⟩
theorem r293 {S : Seat} (h : Ok1 S 293 tf293) (h245 : Rt S k245) (h297 : Rt S k297) (h298_299 : Rt S k298_299) (h52 : Rt S k52) : Rt S k293 := fun x y hy =>
  Ok1.sound h (C := [k245, k297, k298_299, k52]) (CSound.cons h245 (CSound.cons h297 (CSound.cons h298_299 (CSound.cons h52 CSound.nil)))) rfl rfl rfl ((s293 P245 P297 P298_299 P52 x.1 x.2.1 x.2.2).trans hy) rfl

/- tallyhall/reckon.Const -/
end Ab
