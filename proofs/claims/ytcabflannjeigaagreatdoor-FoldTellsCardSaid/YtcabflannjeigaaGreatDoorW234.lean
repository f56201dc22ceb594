/-
  Functions of the program as typed code, what they come to, and their contracts: written by program (mk.py).
-/
import Derived.Test.YtcabflannjeigaaGreatDoorB2
import Derived.KernelRfl
import Derived.Test.YtcabflannjeigaaGreatDoorMFo
import Derived.Test.YtcabflannjeigaaGreatDoorMFt
import Derived.Test.YtcabflannjeigaaGreatDoorC3
import Derived.Test.YtcabflannjeigaaGreatDoorMRc
import Derived.Test.YtcabflannjeigaaGreatDoorC1
namespace Ab
open Go
set_option linter.unusedVariables false
set_option maxRecDepth 100000

/- tallyhall/tallylaw1.FoldTells -/
def tc234 : TCode :=
  .seq (.region [
  ⟨some 5, .box (.t 0), none, []⟩,
  ⟨some 10, .mov (.c (.bool false)), none, []⟩] [] false)
  (.seq (.region [
  ⟨some 24, .load (some 1) (.t 5), none, []⟩,
  ⟨some 25, .mov (.t 1), none, []⟩,
  ⟨some 26, .call false [] 122 [(.t 24), (.t 25)], none, []⟩,
  ⟨some 11, .mov (.t 26), none, []⟩] [] false)
  (.seq (.region [
  ⟨some 12, .mov (.c (.slice none 0 0)), none, []⟩] [] false)
  (.seq (.seq (.region [
  ⟨some 27, .mov (.t 11), none, []⟩,
  ⟨some 28, .bin .int .eql (.t 27) (.c (.int .i64 0)), none, []⟩] [] false)
  (.condJ ⟨[.slot 12 (.sl .cell)], [29, 30, 31], [], []⟩ (.t 28)
    (.region [
  ⟨some 29, .load (some 1) (.t 5), none, []⟩,
  ⟨some 30, .mov (.t 1), none, []⟩,
  ⟨some 31, .call true [] 237 [(.t 29), (.t 30)], none, []⟩,
  ⟨some 12, .mov (.t 31), none, []⟩] [] false)
    (.skip)))
  (.seq (.region [
  ⟨some 33, .load (some 1) (.t 5), none, []⟩,
  ⟨some 34, .mov (.t 1), none, []⟩,
  ⟨some 35, .call true [] 21 [(.t 33), (.t 34)], none, []⟩,
  ⟨some 32, .mov (.t 35), none, []⟩,
  ⟨some 36, .ext (.t 32) 0, none, []⟩,
  ⟨some 37, .ext (.t 32) 1, none, []⟩,
  ⟨some 13, .mov (.t 36), none, []⟩,
  ⟨some 14, .mov (.t 37), none, []⟩] [] false)
  (.seq (.region [
  ⟨some 38, .mov (.t 14), none, []⟩,
  ⟨some 39, .mov (.t 11), none, []⟩,
  ⟨some 40, .call false [] 92 [(.t 38), (.t 39)], none, []⟩,
  ⟨some 15, .mov (.t 40), none, []⟩] [] false)
  (.seq (.region [
  ⟨some 41, .mov (.t 13), none, []⟩,
  ⟨some 42, .mov (.t 12), none, []⟩,
  ⟨some 43, .call false [] 24 [(.t 41), (.t 42)], none, []⟩,
  ⟨some 16, .mov (.t 43), none, []⟩] [] false)
  (.seq (.regionJ ⟨[.slot 17 .bool], [44, 45, 46, 47, 48, 49, 50], [], []⟩ [
  ⟨some 44, .mov (.t 11), none, []⟩,
  ⟨some 45, .bin .int .eql (.t 44) (.c (.int .i64 0)), none, []⟩,
  ⟨some 46, .mov (.t 45), none, []⟩,
  ⟨some 47, .load (some 1) (.t 5), (some (46, true)), []⟩,
  ⟨some 48, .mov (.t 4), (some (46, true)), []⟩,
  ⟨some 49, .call false [] 238 [(.t 47), (.t 48)], (some (46, true)), []⟩,
  ⟨some 50, .pick (.t 46) (.t 49) (.c (.bool false)), none, []⟩,
  ⟨some 17, .mov (.t 50), none, []⟩] [] false)
  (.seq (.seq (.regionJ ⟨[.slot 56 .bool], [51, 52, 53, 54, 55], [], []⟩ [
  ⟨some 51, .mov (.t 11), none, []⟩,
  ⟨some 52, .bin .int .eql (.t 51) (.c (.int .i64 0)), none, []⟩,
  ⟨some 53, .mov (.t 52), none, []⟩,
  ⟨some 54, .mov (.t 17), (some (53, true)), []⟩,
  ⟨some 55, .un .not (.t 54), (some (53, true)), []⟩,
  ⟨some 56, .pick (.t 53) (.t 55) (.c (.bool false)), none, []⟩] [] false)
  (.condJ ⟨[.slot 11 .int, .slot 12 (.sl .cell)], [], [], []⟩ (.t 56)
    (.seq (.region [
  ⟨some 11, .mov (.c (.int .i64 3)), none, []⟩] [] false)
    (.region [
  ⟨some 12, .mov (.c (.slice none 0 0)), none, []⟩] [] false))
    (.skip)))
  (.seq (.seq (.region [
  ⟨some 18, .mov (.c (.int .i64 0)), none, []⟩] [] false)
  (.loop ⟨[.slot 12 (.sl .cell), .slot 18 .int], [57, 58, 59, 60, 61, 62, 63, 64, 65, 66, 67, 68, 69, 70, 71, 72, 73], [], []⟩ 0 (.seq (.seq (.regionJ ⟨[.slot 64 .bool], [57, 58, 59, 60, 61, 62, 63], [], []⟩ [
  ⟨some 57, .mov (.t 18), none, []⟩,
  ⟨some 58, .mov (.t 4), none, []⟩,
  ⟨some 59, .len false (.t 58), none, []⟩,
  ⟨some 60, .bin .int .lss (.t 57) (.t 59), none, []⟩,
  ⟨some 61, .mov (.t 60), none, []⟩,
  ⟨some 62, .mov (.t 11), (some (61, true)), []⟩,
  ⟨some 63, .bin .int .eql (.t 62) (.c (.int .i64 0)), (some (61, true)), []⟩,
  ⟨some 64, .pick (.t 61) (.t 63) (.c (.bool false)), none, []⟩] [] false)
    (.cond (.t 64)
      (.skip)
      (.exit 0)))
    (.seq (.block 1 (.region [
  ⟨some 67, .load (some 1) (.t 5), none, []⟩,
  ⟨some 68, .mov (.t 12), none, []⟩,
  ⟨some 69, .mov (.t 4), none, []⟩,
  ⟨some 70, .mov (.t 18), none, []⟩,
  ⟨some 71, .ia 1 (.t 69) (.t 70), none, [2, 3]⟩,
  ⟨some 72, .load none (.t 71), none, [4]⟩,
  ⟨some 73, .call true [] 239 [(.t 67), (.t 68), (.t 72)], none, [0, 1, 5]⟩,
  ⟨some 12, .mov (.t 73), none, [6, 6, 0, 1, 2, 3, 4, 5, 6]⟩] [] true))
    (.region [
  ⟨some 65, .mov (.t 18), none, []⟩,
  ⟨some 66, .bin .int .add (.t 65) (.c (.int .i64 1)), none, []⟩,
  ⟨some 18, .mov (.t 66), none, []⟩] [] false)))))
  (.seq (.region [
  ⟨some 75, .load (some 1) (.t 5), none, []⟩,
  ⟨some 76, .mov (.t 1), none, []⟩,
  ⟨some 77, .mov (.t 4), none, []⟩,
  ⟨some 78, .call true [] 209 [(.t 75), (.t 76), (.t 77)], none, []⟩,
  ⟨some 74, .mov (.t 78), none, []⟩,
  ⟨some 79, .ext (.t 74) 0, none, []⟩,
  ⟨some 80, .ext (.t 74) 1, none, []⟩,
  ⟨some 13, .mov (.t 79), none, []⟩,
  ⟨some 14, .mov (.t 80), none, []⟩] [] false)
  (.seq (.region [
  ⟨some 81, .mov (.t 14), none, []⟩,
  ⟨some 82, .mov (.t 11), none, []⟩,
  ⟨some 83, .call false [] 92 [(.t 81), (.t 82)], none, []⟩,
  ⟨some 19, .mov (.t 83), none, []⟩] [] false)
  (.seq (.region [
  ⟨some 84, .mov (.t 13), none, []⟩,
  ⟨some 85, .mov (.t 12), none, []⟩,
  ⟨some 86, .call false [] 24 [(.t 84), (.t 85)], none, []⟩,
  ⟨some 20, .mov (.t 86), none, []⟩] [] false)
  (.seq (.region [
  ⟨some 87, .load (some 1) (.t 5), none, []⟩,
  ⟨some 88, .call false [] 125 [(.t 87)], none, []⟩,
  ⟨some 11, .mov (.t 88), none, []⟩] [] false)
  (.seq (.seq (.regionJ ⟨[.slot 97 .bool], [89, 90, 91, 92, 93, 94, 95, 96], [], []⟩ [
  ⟨some 89, .mov (.t 11), none, []⟩,
  ⟨some 90, .bin .int .eql (.t 89) (.c (.int .i64 0)), none, []⟩,
  ⟨some 91, .mov (.t 90), none, []⟩,
  ⟨some 92, .mov (.t 2), (some (91, true)), []⟩,
  ⟨some 93, .len false (.t 92), (some (91, true)), []⟩,
  ⟨some 94, .load (some 1) (.t 5), (some (91, true)), []⟩,
  ⟨some 95, .call false [] 106 [(.t 94)], (some (91, true)), []⟩,
  ⟨some 96, .bin .int .neq (.t 93) (.t 95), (some (91, true)), []⟩,
  ⟨some 97, .pick (.t 91) (.t 96) (.c (.bool false)), none, []⟩] [] false)
  (.condJ ⟨[.slot 11 .int], [], [], []⟩ (.t 97)
    (.region [
  ⟨some 11, .mov (.c (.int .i64 3)), none, []⟩] [] false)
    (.skip)))
  (.seq (.seq (.region [
  ⟨some 21, .mov (.c (.int .i64 0)), none, []⟩] [] false)
  (.loop ⟨[.slot 11 .int, .slot 21 .int], [98, 99, 100, 101, 102, 103, 104, 105, 106, 107, 108, 109, 110, 111, 112], [], []⟩ 2 (.seq (.seq (.regionJ ⟨[.slot 105 .bool], [98, 99, 100, 101, 102, 103, 104], [], []⟩ [
  ⟨some 98, .mov (.t 21), none, []⟩,
  ⟨some 99, .mov (.t 2), none, []⟩,
  ⟨some 100, .len false (.t 99), none, []⟩,
  ⟨some 101, .bin .int .lss (.t 98) (.t 100), none, []⟩,
  ⟨some 102, .mov (.t 101), none, []⟩,
  ⟨some 103, .mov (.t 11), (some (102, true)), []⟩,
  ⟨some 104, .bin .int .eql (.t 103) (.c (.int .i64 0)), (some (102, true)), []⟩,
  ⟨some 105, .pick (.t 102) (.t 104) (.c (.bool false)), none, []⟩] [] false)
    (.cond (.t 105)
      (.skip)
      (.exit 2)))
    (.seq (.block 3 (.region [
  ⟨some 108, .mov (.t 2), none, []⟩,
  ⟨some 109, .mov (.t 21), none, []⟩,
  ⟨some 110, .ia 2 (.t 108) (.t 109), none, []⟩,
  ⟨some 111, .load (some 2) (.t 110), none, []⟩,
  ⟨some 112, .call false [] 144 [(.t 111)], none, []⟩,
  ⟨some 11, .mov (.t 112), none, []⟩] [] false))
    (.region [
  ⟨some 106, .mov (.t 21), none, []⟩,
  ⟨some 107, .bin .int .add (.t 106) (.c (.int .i64 1)), none, []⟩,
  ⟨some 21, .mov (.t 107), none, []⟩] [] false)))))
  (.seq (.seq (.regionJ ⟨[.slot 125 .bool], [113, 114, 115, 116, 117, 118, 119, 120, 121, 122, 123, 124], [], []⟩ [
  ⟨some 113, .mov (.t 11), none, []⟩,
  ⟨some 114, .bin .int .eql (.t 113) (.c (.int .i64 0)), none, []⟩,
  ⟨some 115, .mov (.t 114), none, []⟩,
  ⟨some 116, .mov (.t 3), (some (115, true)), []⟩,
  ⟨some 117, .bin .int .lss (.t 116) (.c (.int .i64 0)), (some (115, true)), []⟩,
  ⟨some 118, .mov (.t 117), (some (115, true)), []⟩,
  ⟨some 119, .mov (.t 3), (some (118, false)), []⟩,
  ⟨some 120, .fa 0 (.t 5), (some (118, false)), []⟩,
  ⟨some 121, .load none (.t 120), (some (118, false)), []⟩,
  ⟨some 122, .len false (.t 121), (some (118, false)), []⟩,
  ⟨some 123, .bin .int .geq (.t 119) (.t 122), (some (118, false)), []⟩,
  ⟨some 124, .pick (.t 118) (.c (.bool true)) (.t 123), (some (115, true)), []⟩,
  ⟨some 125, .pick (.t 115) (.t 124) (.c (.bool false)), none, []⟩] [] false)
  (.condJ ⟨[.slot 11 .int], [], [], []⟩ (.t 125)
    (.region [
  ⟨some 11, .mov (.c (.int .i64 1)), none, []⟩] [] false)
    (.skip)))
  (.seq (.region [
  ⟨some 12, .mov (.c (.slice none 0 0)), none, []⟩] [] false)
  (.seq (.seq (.region [
  ⟨some 126, .mov (.t 11), none, []⟩,
  ⟨some 127, .bin .int .eql (.t 126) (.c (.int .i64 0)), none, []⟩] [] false)
  (.condJ ⟨[.slot 12 (.sl .cell)], [128, 129, 130, 131], [], []⟩ (.t 127)
    (.region [
  ⟨some 128, .load (some 1) (.t 5), none, []⟩,
  ⟨some 129, .mov (.t 2), none, []⟩,
  ⟨some 130, .mov (.t 3), none, []⟩,
  ⟨some 131, .call true [] 239 [(.t 128), (.t 129), (.t 130)], none, []⟩,
  ⟨some 12, .mov (.t 131), none, []⟩] [] false)
    (.skip)))
  (.seq (.region [
  ⟨some 133, .load (some 1) (.t 5), none, []⟩,
  ⟨some 134, .mov (.t 2), none, []⟩,
  ⟨some 135, .mov (.t 3), none, []⟩,
  ⟨some 136, .call true [] 23 [(.t 133), (.t 134), (.t 135)], none, []⟩,
  ⟨some 132, .mov (.t 136), none, []⟩,
  ⟨some 137, .ext (.t 132) 0, none, []⟩,
  ⟨some 138, .ext (.t 132) 1, none, []⟩,
  ⟨some 13, .mov (.t 137), none, []⟩,
  ⟨some 14, .mov (.t 138), none, []⟩] [] false)
  (.seq (.region [
  ⟨some 139, .mov (.t 14), none, []⟩,
  ⟨some 140, .mov (.t 11), none, []⟩,
  ⟨some 141, .call false [] 92 [(.t 139), (.t 140)], none, []⟩,
  ⟨some 22, .mov (.t 141), none, []⟩] [] false)
  (.seq (.region [
  ⟨some 142, .mov (.t 13), none, []⟩,
  ⟨some 143, .mov (.t 12), none, []⟩,
  ⟨some 144, .call false [] 24 [(.t 142), (.t 143)], none, []⟩,
  ⟨some 23, .mov (.t 144), none, []⟩] [] false)
  (.seq (.regionJ ⟨[.slot 10 .bool], [145, 146, 147, 148, 149, 150, 151, 152, 153, 154, 155, 156, 157, 158, 159, 160], [], []⟩ [
  ⟨some 145, .mov (.t 15), none, []⟩,
  ⟨some 146, .mov (.t 145), none, []⟩,
  ⟨some 147, .mov (.t 19), (some (146, true)), []⟩,
  ⟨some 148, .pick (.t 146) (.t 147) (.c (.bool false)), none, []⟩,
  ⟨some 149, .mov (.t 148), none, []⟩,
  ⟨some 150, .mov (.t 22), (some (149, true)), []⟩,
  ⟨some 151, .pick (.t 149) (.t 150) (.c (.bool false)), none, []⟩,
  ⟨some 152, .mov (.t 151), none, []⟩,
  ⟨some 153, .mov (.t 16), (some (152, true)), []⟩,
  ⟨some 154, .pick (.t 152) (.t 153) (.c (.bool false)), none, []⟩,
  ⟨some 155, .mov (.t 154), none, []⟩,
  ⟨some 156, .mov (.t 20), (some (155, true)), []⟩,
  ⟨some 157, .pick (.t 155) (.t 156) (.c (.bool false)), none, []⟩,
  ⟨some 158, .mov (.t 157), none, []⟩,
  ⟨some 159, .mov (.t 23), (some (158, true)), []⟩,
  ⟨some 160, .pick (.t 158) (.t 159) (.c (.bool false)), none, []⟩,
  ⟨some 10, .mov (.t 160), none, []⟩] [] false)
  (.ret)))))))))))))))))))))))
def tf234 : TFunc := { np := 5, nt := 161, res := [.tmp 10], own := false, body := tc234 }
noncomputable def S234_L1 (F239 : (List Dim) → (List Cell) → Int → (Option (List Cell))) (a0 : (List Dim)) (a4 : (List Int)) (x10 : (Int × (List Cell))) (x11 : ((List Cell) × Int)) : Option (LR ((List Cell) × Int) Bool) :=
  jn (σ := Bool) (α := (LR ((List Cell) × Int) Bool)) (br (decide (x11.2 < ((List.length a4 : Nat) : Int)))
  (inlO (some (decide (x10.1 = (0 : Int)))))
  (inlO (some false))) fun x12 =>
  br x12
  (bno (lookI a4 x11.2) fun y13 =>
  bno (F239 a0 x11.1 y13) fun y14 =>
  nxO (some (y14, wi (x11.2 + (1 : Int)))))
  (dnO (some (x11.1, x11.2)))
noncomputable def S234_L2 (F144 : Cell → (Option Int)) (a2 : (List Cell)) (x23 : (Int × Int)) : Option (LR (Int × Int) Bool) :=
  jn (σ := Bool) (α := (LR (Int × Int) Bool)) (br (decide (x23.2 < ((List.length a2 : Nat) : Int)))
  (inlO (some (decide (x23.1 = (0 : Int)))))
  (inlO (some false))) fun x24 =>
  br x24
  (bno (lookI a2 x23.2) fun y25 =>
  bno (F144 y25) fun y26 =>
  nxO (some (y26, wi (x23.2 + (1 : Int)))))
  (dnO (some (x23.1, x23.2)))
noncomputable def S234 (F106 : (List Dim) → (Option Int)) (F122 : (List Dim) → (List Entry) → (Option Int)) (F125 : (List Dim) → (Option Int)) (F144 : Cell → (Option Int)) (F209 : (List Dim) → (List Entry) → (List Int) → (Option ((List Cell) × Err))) (F21 : (List Dim) → (List Entry) → (Option ((List Cell) × Err))) (F23 : (List Dim) → (List Cell) → Int → (Option ((List Cell) × Err))) (F237 : (List Dim) → (List Entry) → (Option (List Cell))) (F238 : (List Dim) → (List Int) → (Option Bool)) (F239 : (List Dim) → (List Cell) → Int → (Option (List Cell))) (F24 : (List Cell) → (List Cell) → (Option Bool)) (F92 : Err → Int → (Option Bool)) (a0 : (List Dim)) (a1 : (List Entry)) (a2 : (List Cell)) (a3 : Int) (a4 : (List Int)) : Option Bool :=
  bno (F122 a0 a1) fun y1 =>
  jn (σ := (List Cell)) (α := Bool) (br (decide (y1 = (0 : Int)))
  (bno (F237 a0 a1) fun y2 =>
  inlO (some y2))
  (inlO (some ([] : List Cell)))) fun x3 =>
  bno (F21 a0 a1) fun y4 =>
  bno (F92 y4.2 y1) fun y5 =>
  bno (F24 y4.1 x3) fun y6 =>
  jn (σ := Bool) (α := Bool) (br (decide (y1 = (0 : Int)))
  (bno (F238 a0 a4) fun y7 =>
  inlO (some y7))
  (inlO (some false))) fun x8 =>
  jn (σ := Bool) (α := Bool) (br (decide (y1 = (0 : Int)))
  (inlO (some (!x8)))
  (inlO (some false))) fun x9 =>
  jn (σ := (Int × (List Cell))) (α := Bool) (br x9
  (inlO (some ((3 : Int), ([] : List Cell))))
  (inlO (some (y1, x3)))) fun x10 =>
  lp (S234_L1 F239 a0 a4 x10) (x10.2, (0 : Int)) fun x15 =>
  bno (F209 a0 a1 a4) fun y16 =>
  bno (F92 y16.2 x10.1) fun y17 =>
  bno (F24 y16.1 x15.1) fun y18 =>
  bno (F125 a0) fun y19 =>
  jn (σ := Bool) (α := Bool) (br (decide (y19 = (0 : Int)))
  (bno (F106 a0) fun y20 =>
  inlO (some (decide (¬ ((List.length a2 : Nat) : Int) = y20))))
  (inlO (some false))) fun x21 =>
  jn (σ := Int) (α := Bool) (br x21
  (inlO (some (3 : Int)))
  (inlO (some y19))) fun x22 =>
  lp (S234_L2 F144 a2) (x22, (0 : Int)) fun x27 =>
  jn (σ := Bool) (α := Bool) (br (decide (x27.1 = (0 : Int)))
  (br (decide (a3 < (0 : Int)))
  (inlO (some true))
  (inlO (some (decide (((List.length a0 : Nat) : Int) ≤ a3)))))
  (inlO (some false))) fun x28 =>
  jn (σ := Int) (α := Bool) (br x28
  (inlO (some (1 : Int)))
  (inlO (some x27.1))) fun x29 =>
  jn (σ := (List Cell)) (α := Bool) (br (decide (x29 = (0 : Int)))
  (bno (F239 a0 a2 a3) fun y30 =>
  inlO (some y30))
  (inlO (some ([] : List Cell)))) fun x31 =>
  bno (F23 a0 a2 a3) fun y32 =>
  bno (F92 y32.2 x29) fun y33 =>
  bno (F24 y32.1 x31) fun y34 =>
  jn (σ := Bool) (α := Bool) (br y5
  (br y17
  (br y33
  (br y6
  (br y18
  (inlO (some y34))
  (inlO (some false)))
  (inlO (some false)))
  (inlO (some false)))
  (inlO (some false)))
  (inlO (some false))) fun x35 =>
  some x35
theorem s234 (F106 : (List Dim) → (Option Int)) (F122 : (List Dim) → (List Entry) → (Option Int)) (F125 : (List Dim) → (Option Int)) (F144 : Cell → (Option Int)) (F209 : (List Dim) → (List Entry) → (List Int) → (Option ((List Cell) × Err))) (F21 : (List Dim) → (List Entry) → (Option ((List Cell) × Err))) (F23 : (List Dim) → (List Cell) → Int → (Option ((List Cell) × Err))) (F237 : (List Dim) → (List Entry) → (Option (List Cell))) (F238 : (List Dim) → (List Int) → (Option Bool)) (F239 : (List Dim) → (List Cell) → Int → (Option (List Cell))) (F24 : (List Cell) → (List Cell) → (Option Bool)) (F92 : Err → Int → (Option Bool)) (a0 : (List Dim)) (a1 : (List Entry)) (a2 : (List Cell)) (a3 : Int) (a4 : (List Int)) : tf234.run [⟨106, [(.st .outl)], .int, fun x => F106 x, false, []⟩,
  ⟨122, [(.st .outl), (.sl .entry)], .int, fun x => F122 x.1 x.2, false, []⟩,
  ⟨125, [(.st .outl)], .int, fun x => F125 x, false, []⟩,
  ⟨144, [(.st .cell)], .int, fun x => F144 x, false, []⟩,
  ⟨209, [(.st .outl), (.sl .entry), (.sl .int)], (.tp [(.sl .cell), .err]), fun x => F209 x.1 x.2.1 x.2.2, false, []⟩,
  ⟨21, [(.st .outl), (.sl .entry)], (.tp [(.own .cell), .err]), fun x => F21 x.1 x.2, false, []⟩,
  ⟨23, [(.st .outl), (.sl .cell), .int], (.tp [(.sl .cell), .err]), fun x => F23 x.1 x.2.1 x.2.2, false, []⟩,
  ⟨237, [(.st .outl), (.sl .entry)], (.sl .cell), fun x => F237 x.1 x.2, false, []⟩,
  ⟨238, [(.st .outl), (.sl .int)], .bool, fun x => F238 x.1 x.2, false, []⟩,
  ⟨239, [(.st .outl), (.sl .cell), .int], (.sl .cell), fun x => F239 x.1 x.2.1 x.2.2, false, []⟩,
  ⟨24, [(.sl .cell), (.sl .cell)], .bool, fun x => F24 x.1 x.2, false, []⟩,
  ⟨92, [.err, .int], .bool, fun x => F92 x.1 x.2, false, []⟩] [(.st .outl), (.sl .entry), (.sl .cell), .int, (.sl .int)] .bool (a0, a1, a2, a3, a4) = S234 F106 F122 F125 F144 F209 F21 F23 F237 F238 F239 F24 F92 a0 a1 a2 a3 a4 := by kernel_rfl
noncomputable def P234 (a0 : (List Dim)) (a1 : (List Entry)) (a2 : (List Cell)) (a3 : Int) (a4 : (List Int)) : Option Bool := S234 P106 P122 P125 P144 P209 P21 P23 P237 P238 P239 P24 P92 a0 a1 a2 a3 a4
noncomputable def k234 : CSpec := ⟨234, [(.st .outl), (.sl .entry), (.sl .cell), .int, (.sl .int)], .bool, fun x => P234 x.1 x.2.1 x.2.2.1 x.2.2.2.1 x.2.2.2.2, false, []⟩
theorem r234 {S : Seat} (h : Ok1 S 234 tf234) (h106 : Rt S k106) (h122 : Rt S k122) (h125 : Rt S k125) (h144 : Rt S k144) (h209 : Rt S k209) (h21 : Rt S k21) (h23 : Rt S k23) (h237 : Rt S k237) (h238 : Rt S k238) (h239 : Rt S k239) (h24 : Rt S k24) (h92 : Rt S k92) : Rt S k234 := fun x y hy =>
  Ok1.sound h (C := [k106, k122, k125, k144, k209, k21, k23, k237, k238, k239, k24, k92]) (CSound.cons h106 (CSound.cons h122 (CSound.cons h125 (CSound.cons h144 (CSound.cons h209 (CSound.cons h21 (CSound.cons h23 (CSound.cons h237 (CSound.cons h238 (CSound.cons h239 (CSound.cons h24 (CSound.cons h92 CSound.nil)))))))))))) rfl rfl rfl ((s234 P106 P122 P125 P144 P209 P21 P23 P237 P238 P239 P24 P92 x.1 x.2.1 x.2.2.1 x.2.2.2.1 x.2.2.2.2).trans hy) rfl

end Ab
