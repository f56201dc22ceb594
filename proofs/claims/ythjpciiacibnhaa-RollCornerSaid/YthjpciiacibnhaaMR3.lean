/-
  Functions of the program as typed code, what they come to, and their contracts: written by program (mk.py).
-/
import Derived.Test.YthjpciiacibnhaaB2
import Derived.KernelRfl
import Derived.Test.YthjpciiacibnhaaMR2
import Derived.Test.YthjpciiacibnhaaMS
namespace Ab
open Go
set_option linter.unusedVariables false
set_option maxRecDepth 100000

/- tallyhall/tallyref1.Find -/
def tc155 : TCode :=
  .seq (.region [
  ⟨some 4, .mov (.c (.int .i64 0)), none, []⟩,
  ⟨some 5, .mov (.c (.bool false)), none, []⟩] [] false)
  (.seq (.region [
  ⟨some 6, .mov (.c (.int .i64 0)), none, []⟩] [] false)
  (.seq (.loop ⟨[.slot 6 .int], [8, 9, 10, 11, 12, 13, 14, 15, 16, 17, 18, 19, 20, 21, 22], [], []⟩ 0 (.seq (.seq (.regionJ ⟨[.slot 20 .bool], [8, 9, 10, 11, 12, 13, 14, 15, 16, 17, 18, 19], [], []⟩ [
  ⟨some 8, .mov (.t 6), none, []⟩,
  ⟨some 9, .mov (.t 0), none, []⟩,
  ⟨some 10, .len false (.t 9), none, []⟩,
  ⟨some 11, .bin .int .lss (.t 8) (.t 10), none, []⟩,
  ⟨some 12, .mov (.t 11), none, []⟩,
  ⟨some 13, .mov (.t 0), (some (12, true)), []⟩,
  ⟨some 14, .mov (.t 6), (some (12, true)), []⟩,
  ⟨some 15, .ia 2 (.t 13) (.t 14), (some (12, true)), []⟩,
  ⟨some 16, .fa 0 (.t 15), (some (12, true)), []⟩,
  ⟨some 17, .load none (.t 16), (some (12, true)), []⟩,
  ⟨some 18, .mov (.t 1), (some (12, true)), []⟩,
  ⟨some 19, .call false [] 151 [(.t 17), (.t 18)], (some (12, true)), []⟩,
  ⟨some 20, .pick (.t 12) (.t 19) (.c (.bool false)), none, []⟩] [] false)
    (.cond (.t 20)
      (.skip)
      (.exit 0)))
    (.block 1 (.region [
  ⟨some 21, .mov (.t 6), none, []⟩,
  ⟨some 22, .bin .int .add (.t 21) (.c (.int .i64 1)), none, []⟩,
  ⟨some 6, .mov (.t 22), none, []⟩] [] false))))
  (.seq (.seq (.region [
  ⟨some 23, .mov (.t 6), none, []⟩,
  ⟨some 24, .mov (.t 0), none, []⟩,
  ⟨some 25, .len false (.t 24), none, []⟩,
  ⟨some 26, .bin .int .eql (.t 23) (.t 25), none, []⟩] [] false)
  (.cond (.t 26)
    (.seq (.region [
  ⟨some 27, .mov (.t 6), none, []⟩,
  ⟨some 4, .mov (.t 27), none, []⟩,
  ⟨some 5, .mov (.c (.bool false)), none, []⟩] [] false)
    (.ret))
    (.skip)))
  (.seq (.region [
  ⟨some 28, .mov (.t 1), none, []⟩,
  ⟨some 29, .mov (.t 0), none, []⟩,
  ⟨some 30, .mov (.t 6), none, []⟩,
  ⟨some 31, .ia 2 (.t 29) (.t 30), none, []⟩,
  ⟨some 32, .fa 0 (.t 31), none, []⟩,
  ⟨some 33, .load none (.t 32), none, []⟩,
  ⟨some 34, .call false [] 151 [(.t 28), (.t 33)], none, []⟩,
  ⟨some 7, .mov (.t 34), none, []⟩] [] false)
  (.seq (.region [
  ⟨some 35, .mov (.t 6), none, []⟩,
  ⟨some 36, .mov (.t 7), none, []⟩,
  ⟨some 37, .un .not (.t 36), none, []⟩,
  ⟨some 4, .mov (.t 35), none, []⟩,
  ⟨some 5, .mov (.t 37), none, []⟩] [] false)
  (.ret))))))
def tf155 : TFunc := { np := 2, nt := 38, res := [.tmp 4, .tmp 5], own := false, body := tc155 }
noncomputable def S155_L1 (F151 : (List Int) → (List Int) → (Option Bool)) (a0 : (List Entry)) (a1 : (List Int)) (x1 : Int) : Option (LR Int (Int × Bool)) :=
  jn (σ := Bool) (α := (LR Int (Int × Bool))) (br (decide (x1 < ((List.length a0 : Nat) : Int)))
  (bno (lookI a0 x1) fun y2 =>
  bno (F151 (Entry.at_ y2) a1) fun y3 =>
  inlO (some y3))
  (inlO (some false))) fun x4 =>
  br x4
  (nxO (some (wi (x1 + (1 : Int)))))
  (dnO (some x1))
noncomputable def S155 (F151 : (List Int) → (List Int) → (Option Bool)) (a0 : (List Entry)) (a1 : (List Int)) : Option (Int × Bool) :=
  lp (S155_L1 F151 a0 a1) (0 : Int) fun x5 =>
  br (decide (x5 = ((List.length a0 : Nat) : Int)))
  (some (x5, false))
  (bno (lookI a0 x5) fun y6 =>
  bno (F151 a1 (Entry.at_ y6)) fun y7 =>
  some (x5, !y7))
theorem s155 (F151 : (List Int) → (List Int) → (Option Bool)) (a0 : (List Entry)) (a1 : (List Int)) : tf155.run [⟨151, [(.sl .int), (.sl .int)], .bool, fun x => F151 x.1 x.2, false, []⟩] [(.sl .entry), (.sl .int)] (.tp [.int, .bool]) (a0, a1) = S155 F151 a0 a1 := by kernel_rfl
noncomputable def P155 (a0 : (List Entry)) (a1 : (List Int)) : Option (Int × Bool) := S155 P151 a0 a1
noncomputable def k155 : CSpec := ⟨155, [(.sl .entry), (.sl .int)], (.tp [.int, .bool]), fun x => P155 x.1 x.2, false, []⟩
theorem r155 {S : Seat} (h : Ok1 S 155 tf155) (h151 : Rt S k151) : Rt S k155 := fun x y hy =>
  Ok1.sound h (C := [k151]) (CSound.cons h151 CSound.nil) rfl rfl rfl ((s155 P151 x.1 x.2).trans hy) rfl

/- tallyhall/tallyref1.Input -/
def tc134 : TCode :=
  .seq (.region [
  ⟨some 4, .alloc [.int .i64 0, .int .i64 0], none, []⟩] [] false)
  (.seq (.region [
  ⟨some 8, .mov (.t 0), none, []⟩,
  ⟨some 9, .mov (.t 1), none, []⟩,
  ⟨some 10, .call false [] 155 [(.t 8), (.t 9)], none, []⟩,
  ⟨some 7, .mov (.t 10), none, []⟩,
  ⟨some 11, .ext (.t 7) 0, none, []⟩,
  ⟨some 12, .ext (.t 7) 1, none, []⟩,
  ⟨some 5, .mov (.t 11), none, []⟩,
  ⟨some 6, .mov (.t 12), none, []⟩] [] false)
  (.seq (.seq (.region [
  ⟨some 13, .mov (.t 6), none, []⟩,
  ⟨some 14, .un .not (.t 13), none, []⟩] [] false)
  (.cond (.t 14)
    (.seq (.region [
  ⟨some 15, .build [.int .i64 0, .int .i64 0] [], none, []⟩,
  ⟨none, .store 2 (.t 4) (.t 15), none, []⟩] [] false)
    (.ret))
    (.skip)))
  (.seq (.region [
  ⟨some 16, .mov (.t 0), none, []⟩,
  ⟨some 17, .mov (.t 5), none, []⟩,
  ⟨some 18, .ia 2 (.t 16) (.t 17), none, []⟩,
  ⟨some 19, .fa 1 (.t 18), none, []⟩,
  ⟨some 20, .load none (.t 19), none, []⟩,
  ⟨some 21, .build [.int .i64 0, .int .i64 0] [(0, 1, (.c (.int .i64 1))), (1, 1, (.t 20))], none, []⟩,
  ⟨none, .store 2 (.t 4) (.t 21), none, []⟩] [] false)
  (.ret))))
def tf134 : TFunc := { np := 2, nt := 22, res := [.cell 4 (some 2)], own := false, body := tc134 }
noncomputable def S134 (F155 : (List Entry) → (List Int) → (Option (Int × Bool))) (a0 : (List Entry)) (a1 : (List Int)) : Option Cell :=
  bno (F155 a0 a1) fun y1 =>
  br (!y1.2)
  (some (Cell.mk (0 : Int) (0 : Int)))
  (bno (lookI a0 y1.1) fun y2 =>
  some (Cell.mk (1 : Int) (Entry.n y2)))
theorem s134 (F155 : (List Entry) → (List Int) → (Option (Int × Bool))) (a0 : (List Entry)) (a1 : (List Int)) : tf134.run [⟨155, [(.sl .entry), (.sl .int)], (.tp [.int, .bool]), fun x => F155 x.1 x.2, false, []⟩] [(.sl .entry), (.sl .int)] (.st .cell) (a0, a1) = S134 F155 a0 a1 := by kernel_rfl
noncomputable def P134 (a0 : (List Entry)) (a1 : (List Int)) : Option Cell := S134 P155 a0 a1
noncomputable def k134 : CSpec := ⟨134, [(.sl .entry), (.sl .int)], (.st .cell), fun x => P134 x.1 x.2, false, []⟩
theorem r134 {S : Seat} (h : Ok1 S 134 tf134) (h155 : Rt S k155) : Rt S k134 := fun x y hy =>
  Ok1.sound h (C := [k155]) (CSound.cons h155 CSound.nil) rfl rfl rfl ((s134 P155 x.1 x.2).trans hy) rfl

/- tallyhall/tallyref1.Edit -/
def tc135 : TCode :=
  .seq (.region [
  ⟨some 3, .box (.t 0), none, []⟩,
  ⟨some 5, .box (.t 2), none, []⟩,
  ⟨some 6, .mov (.c (.slice none 0 0)), none, []⟩,
  ⟨some 7, .mov (.c (.int .i64 0)), none, []⟩] [] false)
  (.seq (.region [
  ⟨some 13, .load (some 1) (.t 3), none, []⟩,
  ⟨some 14, .fa 0 (.t 5), none, []⟩,
  ⟨some 15, .load none (.t 14), none, []⟩,
  ⟨some 16, .call false [] 123 [(.t 13), (.t 15)], none, []⟩,
  ⟨some 8, .mov (.t 16), none, []⟩] [] false)
  (.seq (.seq (.region [
  ⟨some 17, .mov (.t 8), none, []⟩,
  ⟨some 18, .bin .int .neq (.t 17) (.c (.int .i64 0)), none, []⟩] [] false)
  (.cond (.t 18)
    (.seq (.region [
  ⟨some 19, .mov (.t 8), none, []⟩,
  ⟨some 6, .mov (.c (.slice none 0 0)), none, []⟩,
  ⟨some 7, .mov (.t 19), none, []⟩] [] false)
    (.ret))
    (.skip)))
  (.seq (.region [
  ⟨some 21, .mov (.t 1), none, []⟩,
  ⟨some 22, .fa 0 (.t 5), none, []⟩,
  ⟨some 23, .load none (.t 22), none, []⟩,
  ⟨some 24, .call false [] 155 [(.t 21), (.t 23)], none, []⟩,
  ⟨some 20, .mov (.t 24), none, []⟩,
  ⟨some 25, .ext (.t 20) 0, none, []⟩,
  ⟨some 26, .ext (.t 20) 1, none, []⟩,
  ⟨some 9, .mov (.t 25), none, []⟩,
  ⟨some 10, .mov (.t 26), none, []⟩] [] false)
  (.seq (.region [
  ⟨some 27, .load (some 1) (.t 3), none, []⟩,
  ⟨some 28, .fa 0 (.t 5), none, []⟩,
  ⟨some 29, .load none (.t 28), none, []⟩,
  ⟨some 30, .call false [] 130 [(.t 27), (.t 29)], none, []⟩,
  ⟨some 11, .mov (.t 30), none, []⟩] [] false)
  (.seq (.seq (.regionJ ⟨[.slot 36 .bool], [31, 32, 33, 34, 35], [], []⟩ [
  ⟨some 31, .fa 2 (.t 5), none, []⟩,
  ⟨some 32, .load none (.t 31), none, []⟩,
  ⟨some 33, .mov (.t 32), none, []⟩,
  ⟨some 34, .mov (.t 10), (some (33, true)), []⟩,
  ⟨some 35, .un .not (.t 34), (some (33, true)), []⟩,
  ⟨some 36, .pick (.t 33) (.t 35) (.c (.bool false)), none, []⟩] [] false)
  (.cond (.t 36)
    (.seq (.region [
  ⟨some 6, .mov (.c (.slice none 0 0)), none, []⟩,
  ⟨some 7, .mov (.c (.int .i64 5)), none, []⟩] [] false)
    (.ret))
    (.skip)))
  (.seq (.seq (.regionJ ⟨[.slot 43 .bool], [37, 38, 39, 40, 41, 42], [], []⟩ [
  ⟨some 37, .fa 2 (.t 5), none, []⟩,
  ⟨some 38, .load none (.t 37), none, []⟩,
  ⟨some 39, .un .not (.t 38), none, []⟩,
  ⟨some 40, .mov (.t 39), none, []⟩,
  ⟨some 41, .mov (.t 11), (some (40, true)), []⟩,
  ⟨some 42, .un .not (.t 41), (some (40, true)), []⟩,
  ⟨some 43, .pick (.t 40) (.t 42) (.c (.bool false)), none, []⟩] [] false)
  (.cond (.t 43)
    (.seq (.region [
  ⟨some 6, .mov (.c (.slice none 0 0)), none, []⟩,
  ⟨some 7, .mov (.c (.int .i64 6)), none, []⟩] [] false)
    (.ret))
    (.skip)))
  (.seq (.seq (.regionJ ⟨[.slot 56 .bool], [44, 45, 46, 47, 48, 49, 50, 51, 52, 53, 54, 55], [], []⟩ [
  ⟨some 44, .fa 2 (.t 5), none, []⟩,
  ⟨some 45, .load none (.t 44), none, []⟩,
  ⟨some 46, .un .not (.t 45), none, []⟩,
  ⟨some 47, .mov (.t 46), none, []⟩,
  ⟨some 48, .fa 1 (.t 5), (some (47, true)), []⟩,
  ⟨some 49, .load none (.t 48), (some (47, true)), []⟩,
  ⟨some 50, .bin .int .lss (.t 49) (.c (.int .i64 (-1000000))), (some (47, true)), []⟩,
  ⟨some 51, .mov (.t 50), (some (47, true)), []⟩,
  ⟨some 52, .fa 1 (.t 5), (some (51, false)), []⟩,
  ⟨some 53, .load none (.t 52), (some (51, false)), []⟩,
  ⟨some 54, .bin .int .gtr (.t 53) (.c (.int .i64 1000000)), (some (51, false)), []⟩,
  ⟨some 55, .pick (.t 51) (.c (.bool true)) (.t 54), (some (47, true)), []⟩,
  ⟨some 56, .pick (.t 47) (.t 55) (.c (.bool false)), none, []⟩] [] false)
  (.cond (.t 56)
    (.seq (.region [
  ⟨some 6, .mov (.c (.slice none 0 0)), none, []⟩,
  ⟨some 7, .mov (.c (.int .i64 1)), none, []⟩] [] false)
    (.ret))
    (.skip)))
  (.seq (.region [
  ⟨some 12, .mov (.c (.slice none 0 0)), none, []⟩] [] false)
  (.seq (.region [
  ⟨some 57, .mov (.t 12), none, []⟩,
  ⟨some 58, .mov (.t 1), none, []⟩,
  ⟨some 59, .mov (.t 9), none, []⟩,
  ⟨some 60, .slc 2 (.t 58) none (some (.t 59)), none, []⟩,
  ⟨some 61, .app 2 (.t 57) (.t 60), none, []⟩,
  ⟨some 12, .mov (.t 61), none, []⟩] [.int, .int, .int, .int, .entry] false)
  (.seq (.seq (.region [
  ⟨some 62, .fa 2 (.t 5), none, []⟩,
  ⟨some 63, .load none (.t 62), none, []⟩,
  ⟨some 64, .un .not (.t 63), none, []⟩] [] false)
  (.condJ ⟨[.row 12 61 .entry], [65, 66, 67, 68, 69, 70, 71, 72], [71], []⟩ (.t 64)
    (.region [
  ⟨some 65, .mov (.t 12), none, []⟩,
  ⟨some 66, .fa 0 (.t 5), none, []⟩,
  ⟨some 67, .load none (.t 66), none, []⟩,
  ⟨some 68, .fa 1 (.t 5), none, []⟩,
  ⟨some 69, .load none (.t 68), none, []⟩,
  ⟨some 70, .build [.slice none 0 0, .int .i64 0] [(0, 1, (.t 67)), (1, 1, (.t 69))], none, []⟩,
  ⟨some 71, .bslice true 2 [.slice none 0 0, .int .i64 0] 1 [(0, (.t 70))], none, []⟩,
  ⟨some 72, .app 2 (.t 65) (.t 71), none, []⟩,
  ⟨some 12, .mov (.t 72), none, []⟩] [.int, .int, .int, .int, .int, .int, .entry, .entry] false)
    (.skip)))
  (.seq (.seq (.region [
  ⟨some 73, .mov (.t 10), none, []⟩] [] false)
  (.condJ ⟨[.slot 9 .int], [74, 75], [], []⟩ (.t 73)
    (.region [
  ⟨some 74, .mov (.t 9), none, []⟩,
  ⟨some 75, .bin .int .add (.t 74) (.c (.int .i64 1)), none, []⟩,
  ⟨some 9, .mov (.t 75), none, []⟩] [] false)
    (.skip)))
  (.seq (.region [
  ⟨some 76, .mov (.t 12), none, []⟩,
  ⟨some 77, .mov (.t 1), none, []⟩,
  ⟨some 78, .mov (.t 9), none, []⟩,
  ⟨some 79, .slc 2 (.t 77) (some (.t 78)) none, none, []⟩,
  ⟨some 80, .app 2 (.t 76) (.t 79), none, []⟩,
  ⟨some 6, .mov (.t 80), none, []⟩,
  ⟨some 7, .mov (.c (.int .i64 0)), none, []⟩] [.int, .int, .int, .int, .entry] false)
  (.ret)))))))))))))
def tf135 : TFunc := { np := 3, nt := 81, res := [.tmp 6, .tmp 7], own := false, body := tc135 }
noncomputable def S135 (F123 : (List Dim) → (List Int) → (Option Int)) (F130 : (List Dim) → (List Int) → (Option Bool)) (F155 : (List Entry) → (List Int) → (Option (Int × Bool))) (a0 : (List Dim)) (a1 : (List Entry)) (a2 : Edit) : Option ((List Entry) × Int) :=
  bno (F123 a0 (Edit.at_ a2)) fun y1 =>
  br (decide (¬ y1 = (0 : Int)))
  (some (([] : List Entry), y1))
  (bno (F155 a1 (Edit.at_ a2)) fun y2 =>
  bno (F130 a0 (Edit.at_ a2)) fun y3 =>
  jn (σ := Bool) (α := ((List Entry) × Int)) (br (Edit.clear a2)
  (inlO (some (!y2.2)))
  (inlO (some false))) fun x4 =>
  br x4
  (some (([] : List Entry), (5 : Int)))
  (jn (σ := Bool) (α := ((List Entry) × Int)) (br (!(Edit.clear a2))
  (inlO (some (!y3)))
  (inlO (some false))) fun x5 =>
  br x5
  (some (([] : List Entry), (6 : Int)))
  (jn (σ := Bool) (α := ((List Entry) × Int)) (br (!(Edit.clear a2))
  (br (decide ((Edit.n a2) < (-1000000 : Int)))
  (inlO (some true))
  (inlO (some (decide ((1000000 : Int) < (Edit.n a2))))))
  (inlO (some false))) fun x6 =>
  br x6
  (some (([] : List Entry), (1 : Int)))
  (ck (decide (0 ≤ (0 : Int) ∧ (0 : Int) ≤ y2.1 ∧ y2.1 ≤ ((List.length a1 : Nat) : Int))) <|
  ck (decide (List.length (List.take (Int.toNat y2.1 - Int.toNat (0 : Int)) (List.drop (Int.toNat (0 : Int)) a1)) ≤ roomA)) <|
  jn (σ := (List Entry)) (α := ((List Entry) × Int)) (br (!(Edit.clear a2))
  (ck (decide (List.length (List.take (Int.toNat y2.1 - Int.toNat (0 : Int)) (List.drop (Int.toNat (0 : Int)) a1)) + List.length ([Entry.mk (Edit.at_ a2) (Edit.n a2)] : List Entry) ≤ roomA)) <|
  inlO (some ((List.take (Int.toNat y2.1 - Int.toNat (0 : Int)) (List.drop (Int.toNat (0 : Int)) a1)) ++ ([Entry.mk (Edit.at_ a2) (Edit.n a2)] : List Entry))))
  (inlO (some (List.take (Int.toNat y2.1 - Int.toNat (0 : Int)) (List.drop (Int.toNat (0 : Int)) a1))))) fun x7 =>
  jn (σ := Int) (α := ((List Entry) × Int)) (br y2.2
  (inlO (some (wi (y2.1 + (1 : Int)))))
  (inlO (some y2.1))) fun x8 =>
  ck (decide (0 ≤ x8 ∧ x8 ≤ ((List.length a1 : Nat) : Int) ∧ ((List.length a1 : Nat) : Int) ≤ ((List.length a1 : Nat) : Int))) <|
  ck (decide (List.length x7 + List.length (List.take (Int.toNat ((List.length a1 : Nat) : Int) - Int.toNat x8) (List.drop (Int.toNat x8) a1)) ≤ roomA)) <|
  some (x7 ++ (List.take (Int.toNat ((List.length a1 : Nat) : Int) - Int.toNat x8) (List.drop (Int.toNat x8) a1)), (0 : Int))))))
theorem s135 (F123 : (List Dim) → (List Int) → (Option Int)) (F130 : (List Dim) → (List Int) → (Option Bool)) (F155 : (List Entry) → (List Int) → (Option (Int × Bool))) (a0 : (List Dim)) (a1 : (List Entry)) (a2 : Edit) : tf135.run [⟨123, [(.st .outl), (.sl .int)], .int, fun x => F123 x.1 x.2, false, []⟩,
  ⟨130, [(.st .outl), (.sl .int)], .bool, fun x => F130 x.1 x.2, false, []⟩,
  ⟨155, [(.sl .entry), (.sl .int)], (.tp [.int, .bool]), fun x => F155 x.1 x.2, false, []⟩] [(.st .outl), (.sl .entry), (.st .edit)] (.tp [(.sl .entry), .int]) (a0, a1, a2) = S135 F123 F130 F155 a0 a1 a2 := by kernel_rfl
noncomputable def P135 (a0 : (List Dim)) (a1 : (List Entry)) (a2 : Edit) : Option ((List Entry) × Int) := S135 P123 P130 P155 a0 a1 a2
noncomputable def k135 : CSpec := ⟨135, [(.st .outl), (.sl .entry), (.st .edit)], (.tp [(.sl .entry), .int]), fun x => P135 x.1 x.2.1 x.2.2, false, []⟩
theorem r135 {S : Seat} (h : Ok1 S 135 tf135) (h123 : Rt S k123) (h130 : Rt S k130) (h155 : Rt S k155) : Rt S k135 := fun x y hy =>
  Ok1.sound h (C := [k123, k130, k155]) (CSound.cons h123 (CSound.cons h130 (CSound.cons h155 CSound.nil))) rfl rfl rfl ((s135 P123 P130 P155 x.1 x.2.1 x.2.2).trans hy) rfl

/- tallyhall/tallysame.Entries -/
def tc136 : TCode :=
  .seq (.region [
  ⟨some 4, .mov (.c (.bool false)), none, []⟩] [] false)
  (.seq (.seq (.region [
  ⟨some 7, .mov (.t 0), none, []⟩,
  ⟨some 8, .len false (.t 7), none, []⟩,
  ⟨some 9, .mov (.t 1), none, []⟩,
  ⟨some 10, .len false (.t 9), none, []⟩,
  ⟨some 11, .bin .int .neq (.t 8) (.t 10), none, []⟩] [] false)
  (.cond (.t 11)
    (.seq (.region [
  ⟨some 4, .mov (.c (.bool false)), none, []⟩] [] false)
    (.ret))
    (.skip)))
  (.seq (.seq (.region [
  ⟨some 5, .mov (.c (.int .i64 0)), none, []⟩] [] false)
  (.loop ⟨[.slot 5 .int], [6, 12, 13, 14, 15, 16, 17, 18, 19, 20, 21, 22, 23, 24, 25, 26, 27, 28, 29, 30, 31, 32, 33, 34, 35, 36, 37, 38, 39, 40, 41, 42, 43], [], []⟩ 0 (.seq (.seq (.region [
  ⟨some 12, .mov (.t 5), none, []⟩,
  ⟨some 13, .mov (.t 0), none, []⟩,
  ⟨some 14, .len false (.t 13), none, []⟩,
  ⟨some 15, .bin .int .lss (.t 12) (.t 14), none, []⟩] [] false)
    (.cond (.t 15)
      (.skip)
      (.exit 0)))
    (.seq (.block 1 (.seq (.region [
  ⟨some 18, .mov (.t 0), none, []⟩,
  ⟨some 19, .mov (.t 5), none, []⟩,
  ⟨some 20, .ia 2 (.t 18) (.t 19), none, [0, 1]⟩,
  ⟨some 21, .fa 0 (.t 20), none, [2]⟩,
  ⟨some 22, .load none (.t 21), none, [3]⟩,
  ⟨some 23, .mov (.t 1), none, []⟩,
  ⟨some 24, .mov (.t 5), none, []⟩,
  ⟨some 25, .ia 2 (.t 23) (.t 24), none, [5, 6]⟩,
  ⟨some 26, .fa 0 (.t 25), none, [7]⟩,
  ⟨some 27, .load none (.t 26), none, [8]⟩,
  ⟨some 28, .call false [] 28 [(.t 22), (.t 27)], none, [4, 9]⟩,
  ⟨some 6, .mov (.t 28), none, [10, 10, 0, 1, 2, 3, 4, 5, 6, 7, 8, 9, 10]⟩] [] true)
      (.seq (.regionJ ⟨[.slot 43 .bool], [29, 30, 31, 32, 33, 34, 35, 36, 37, 38, 39, 40, 41, 42], [], []⟩ [
  ⟨some 29, .mov (.t 6), none, []⟩,
  ⟨some 30, .un .not (.t 29), none, [0]⟩,
  ⟨some 31, .mov (.t 30), none, [1]⟩,
  ⟨some 32, .mov (.t 0), (some (31, false)), [2]⟩,
  ⟨some 33, .mov (.t 5), (some (31, false)), [2]⟩,
  ⟨some 34, .ia 2 (.t 32) (.t 33), (some (31, false)), [3, 4, 2]⟩,
  ⟨some 35, .fa 1 (.t 34), (some (31, false)), [5, 2]⟩,
  ⟨some 36, .load none (.t 35), (some (31, false)), [6, 2]⟩,
  ⟨some 37, .mov (.t 1), (some (31, false)), [2]⟩,
  ⟨some 38, .mov (.t 5), (some (31, false)), [2]⟩,
  ⟨some 39, .ia 2 (.t 37) (.t 38), (some (31, false)), [8, 9, 2]⟩,
  ⟨some 40, .fa 1 (.t 39), (some (31, false)), [10, 2]⟩,
  ⟨some 41, .load none (.t 40), (some (31, false)), [11, 2]⟩,
  ⟨some 42, .bin .int .neq (.t 36) (.t 41), (some (31, false)), [7, 12, 2]⟩,
  ⟨some 43, .pick (.t 31) (.c (.bool true)) (.t 42), none, [2, 13]⟩] [] true)
      (.cond (.t 43)
        (.seq (.region [
  ⟨some 4, .mov (.c (.bool false)), none, []⟩] [] false)
        (.ret))
        (.skip)))))
    (.region [
  ⟨some 16, .mov (.t 5), none, []⟩,
  ⟨some 17, .bin .int .add (.t 16) (.c (.int .i64 1)), none, []⟩,
  ⟨some 5, .mov (.t 17), none, []⟩] [] false)))))
  (.seq (.region [
  ⟨some 4, .mov (.c (.bool true)), none, []⟩] [] false)
  (.ret))))
def tf136 : TFunc := { np := 2, nt := 44, res := [.tmp 4], own := false, body := tc136 }
noncomputable def S136_L1 (F28 : (List Int) → (List Int) → (Option Bool)) (a0 : (List Entry)) (a1 : (List Entry)) (x1 : Int) : Option (LR Int Bool) :=
  br (decide (x1 < ((List.length a0 : Nat) : Int)))
  (bno (lookI a0 x1) fun y2 =>
  bno (lookI a1 x1) fun y3 =>
  bno (F28 (Entry.at_ y2) (Entry.at_ y3)) fun y4 =>
  jn (σ := Bool) (α := (LR Int Bool)) (br (!y4)
  (inlO (some true))
  (bno (lookI a0 x1) fun y5 =>
  bno (lookI a1 x1) fun y6 =>
  inlO (some (decide (¬ (Entry.n y5) = (Entry.n y6)))))) fun x7 =>
  br x7
  (finO (some false))
  (nxO (some (wi (x1 + (1 : Int))))))
  (dnO (some x1))
noncomputable def S136 (F28 : (List Int) → (List Int) → (Option Bool)) (a0 : (List Entry)) (a1 : (List Entry)) : Option Bool :=
  br (decide (¬ ((List.length a0 : Nat) : Int) = ((List.length a1 : Nat) : Int)))
  (some false)
  (lp (S136_L1 F28 a0 a1) (0 : Int) fun x8 =>
  some true)
theorem s136 (F28 : (List Int) → (List Int) → (Option Bool)) (a0 : (List Entry)) (a1 : (List Entry)) : tf136.run [⟨28, [(.sl .int), (.sl .int)], .bool, fun x => F28 x.1 x.2, false, []⟩] [(.sl .entry), (.sl .entry)] .bool (a0, a1) = S136 F28 a0 a1 := by kernel_rfl
noncomputable def P136 (a0 : (List Entry)) (a1 : (List Entry)) : Option Bool := S136 P28 a0 a1
noncomputable def k136 : CSpec := ⟨136, [(.sl .entry), (.sl .entry)], .bool, fun x => P136 x.1 x.2, false, []⟩
theorem r136 {S : Seat} (h : Ok1 S 136 tf136) (h28 : Rt S k28) : Rt S k136 := fun x y hy =>
  Ok1.sound h (C := [k28]) (CSound.cons h28 CSound.nil) rfl rfl rfl ((s136 P28 x.1 x.2).trans hy) rfl

/- tallyhall/tallyref1.Edits -/
def tc137 : TCode :=
  .seq (.region [
  ⟨some 3, .box (.t 0), none, []⟩,
  ⟨some 6, .mov (.c (.slice none 0 0)), none, []⟩,
  ⟨some 7, .mov (.c (.int .i64 0)), none, []⟩,
  ⟨some 8, .mov (.c (.int .i64 0)), none, []⟩] [] false)
  (.seq (.seq (.region [
  ⟨some 13, .mov (.t 2), none, []⟩,
  ⟨some 14, .len false (.t 13), none, []⟩,
  ⟨some 15, .bin .int .gtr (.t 14) (.c (.int .i64 60)), none, []⟩] [] false)
  (.cond (.t 15)
    (.seq (.region [
  ⟨some 6, .mov (.c (.slice none 0 0)), none, []⟩,
  ⟨some 7, .mov (.c (.int .i64 0)), none, []⟩,
  ⟨some 8, .mov (.c (.int .i64 4)), none, []⟩] [] false)
    (.ret))
    (.skip)))
  (.seq (.region [
  ⟨some 16, .load (some 1) (.t 3), none, []⟩,
  ⟨some 17, .mov (.t 1), none, []⟩,
  ⟨some 18, .call false [] 122 [(.t 16), (.t 17)], none, []⟩,
  ⟨some 9, .mov (.t 18), none, []⟩] [] false)
  (.seq (.seq (.region [
  ⟨some 19, .mov (.t 9), none, []⟩,
  ⟨some 20, .bin .int .neq (.t 19) (.c (.int .i64 0)), none, []⟩] [] false)
  (.cond (.t 20)
    (.seq (.region [
  ⟨some 21, .mov (.t 9), none, []⟩,
  ⟨some 6, .mov (.c (.slice none 0 0)), none, []⟩,
  ⟨some 7, .mov (.c (.int .i64 0)), none, []⟩,
  ⟨some 8, .mov (.t 21), none, []⟩] [] false)
    (.ret))
    (.skip)))
  (.seq (.seq (.region [
  ⟨some 10, .mov (.c (.int .i64 0)), none, []⟩] [] false)
  (.loop ⟨[.slot 1 (.sl .entry), .slot 10 .int], [11, 12, 22, 23, 24, 25, 26, 27, 28, 29, 30, 31, 32, 33, 34, 35, 36, 37, 38, 39, 42], [], []⟩ 0 (.seq (.seq (.region [
  ⟨some 22, .mov (.t 10), none, []⟩,
  ⟨some 23, .mov (.t 2), none, []⟩,
  ⟨some 24, .len false (.t 23), none, []⟩,
  ⟨some 25, .bin .int .lss (.t 22) (.t 24), none, []⟩] [] false)
    (.cond (.t 25)
      (.skip)
      (.exit 0)))
    (.seq (.block 1 (.seq (.region [
  ⟨some 29, .load (some 1) (.t 3), none, []⟩,
  ⟨some 30, .mov (.t 1), none, []⟩,
  ⟨some 31, .mov (.t 2), none, []⟩,
  ⟨some 32, .mov (.t 10), none, []⟩,
  ⟨some 33, .ia 3 (.t 31) (.t 32), none, [2, 3]⟩,
  ⟨some 34, .load (some 3) (.t 33), none, [4]⟩,
  ⟨some 35, .call true [] 135 [(.t 29), (.t 30), (.t 34)], none, [0, 1, 5]⟩,
  ⟨some 28, .mov (.t 35), none, [6]⟩,
  ⟨some 36, .ext (.t 28) 0, none, [7]⟩,
  ⟨some 37, .ext (.t 28) 1, none, [7]⟩,
  ⟨some 11, .mov (.t 36), none, [8, 6, 0, 1, 2, 3, 4, 5, 6, 7, 8]⟩,
  ⟨some 12, .mov (.t 37), none, [9, 10, 0, 1, 2, 3, 4, 5, 6, 7, 8, 9, 10]⟩] [] true)
      (.seq (.seq (.region [
  ⟨some 38, .mov (.t 12), none, []⟩,
  ⟨some 39, .bin .int .neq (.t 38) (.c (.int .i64 0)), none, []⟩] [] false)
      (.cond (.t 39)
        (.seq (.region [
  ⟨some 40, .mov (.t 10), none, []⟩,
  ⟨some 41, .mov (.t 12), none, []⟩,
  ⟨some 6, .mov (.c (.slice none 0 0)), none, []⟩,
  ⟨some 7, .mov (.t 40), none, []⟩,
  ⟨some 8, .mov (.t 41), none, []⟩] [] false)
        (.ret))
        (.skip)))
      (.region [
  ⟨some 42, .mov (.t 11), none, []⟩,
  ⟨some 1, .mov (.t 42), none, []⟩] [] false))))
    (.region [
  ⟨some 26, .mov (.t 10), none, []⟩,
  ⟨some 27, .bin .int .add (.t 26) (.c (.int .i64 1)), none, []⟩,
  ⟨some 10, .mov (.t 27), none, []⟩] [] false)))))
  (.seq (.region [
  ⟨some 43, .mov (.t 1), none, []⟩,
  ⟨some 6, .mov (.t 43), none, []⟩,
  ⟨some 7, .mov (.c (.int .i64 0)), none, []⟩,
  ⟨some 8, .mov (.c (.int .i64 0)), none, []⟩] [] false)
  (.ret))))))
def tf137 : TFunc := { np := 3, nt := 44, res := [.tmp 6, .tmp 7, .tmp 8], own := false, body := tc137 }
noncomputable def S137_L1 (F135 : (List Dim) → (List Entry) → Edit → (Option ((List Entry) × Int))) (a0 : (List Dim)) (a2 : (List Edit)) (x2 : ((List Entry) × Int)) : Option (LR ((List Entry) × Int) ((List Entry) × Int × Int)) :=
  br (decide (x2.2 < ((List.length a2 : Nat) : Int)))
  (bno (lookI a2 x2.2) fun y3 =>
  bno (F135 a0 x2.1 y3) fun y4 =>
  br (decide (¬ y4.2 = (0 : Int)))
  (finO (some (([] : List Entry), x2.2, y4.2)))
  (nxO (some (y4.1, wi (x2.2 + (1 : Int))))))
  (dnO (some (x2.1, x2.2)))
noncomputable def S137 (F122 : (List Dim) → (List Entry) → (Option Int)) (F135 : (List Dim) → (List Entry) → Edit → (Option ((List Entry) × Int))) (a0 : (List Dim)) (a1 : (List Entry)) (a2 : (List Edit)) : Option ((List Entry) × Int × Int) :=
  br (decide ((60 : Int) < ((List.length a2 : Nat) : Int)))
  (some (([] : List Entry), (0 : Int), (4 : Int)))
  (bno (F122 a0 a1) fun y1 =>
  br (decide (¬ y1 = (0 : Int)))
  (some (([] : List Entry), (0 : Int), y1))
  (lp (S137_L1 F135 a0 a2) (a1, (0 : Int)) fun x5 =>
  some (x5.1, (0 : Int), (0 : Int))))
theorem s137 (F122 : (List Dim) → (List Entry) → (Option Int)) (F135 : (List Dim) → (List Entry) → Edit → (Option ((List Entry) × Int))) (a0 : (List Dim)) (a1 : (List Entry)) (a2 : (List Edit)) : tf137.run [⟨122, [(.st .outl), (.sl .entry)], .int, fun x => F122 x.1 x.2, false, []⟩,
  ⟨135, [(.st .outl), (.sl .entry), (.st .edit)], (.tp [(.sl .entry), .int]), fun x => F135 x.1 x.2.1 x.2.2, false, []⟩] [(.st .outl), (.sl .entry), (.sl .edit)] (.tp [(.sl .entry), .int, .int]) (a0, a1, a2) = S137 F122 F135 a0 a1 a2 := by kernel_rfl
noncomputable def P137 (a0 : (List Dim)) (a1 : (List Entry)) (a2 : (List Edit)) : Option ((List Entry) × Int × Int) := S137 P122 P135 a0 a1 a2
noncomputable def k137 : CSpec := ⟨137, [(.st .outl), (.sl .entry), (.sl .edit)], (.tp [(.sl .entry), .int, .int]), fun x => P137 x.1 x.2.1 x.2.2, false, []⟩
theorem r137 {S : Seat} (h : Ok1 S 137 tf137) (h122 : Rt S k122) (h135 : Rt S k135) : Rt S k137 := fun x y hy =>
  Ok1.sound h (C := [k122, k135]) (CSound.cons h122 (CSound.cons h135 CSound.nil)) rfl rfl rfl ((s137 P122 P135 x.1 x.2.1 x.2.2).trans hy) rfl

end Ab
