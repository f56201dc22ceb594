/-
  Functions of the program as typed code, what they come to, and their contracts: written by program (mk.py).
-/
import Derived.Test.YtcabflannjeigaaGreatDoorB2
import Derived.KernelRfl
import Derived.Test.YtcabflannjeigaaGreatDoorMFo
import Derived.Test.YtcabflannjeigaaGreatDoorC3
import Derived.Test.YtcabflannjeigaaGreatDoorMRc
import Derived.Test.YtcabflannjeigaaGreatDoorMSo
namespace Ab
open Go
set_option linter.unusedVariables false
set_option maxRecDepth 100000

/- tallyhall/fold.All -/
def tc209 : TCode :=
  .seq (.region [
  ⟨some 3, .box (.t 0), none, []⟩,
  ⟨some 6, .mov (.c (.slice none 0 0)), none, []⟩,
  ⟨some 7, .mov (.c (.nilIface)), none, []⟩] [] false)
  (.seq (.region [
  ⟨some 16, .load (some 1) (.t 3), none, []⟩,
  ⟨some 17, .mov (.t 1), none, []⟩,
  ⟨some 18, .call true [] 21 [(.t 16), (.t 17)], none, []⟩,
  ⟨some 15, .mov (.t 18), none, []⟩,
  ⟨some 19, .ext (.t 15) 0, none, []⟩,
  ⟨some 20, .ext (.t 15) 1, none, []⟩,
  ⟨some 8, .mov (.t 19), none, []⟩,
  ⟨some 9, .mov (.t 20), none, []⟩] [] false)
  (.seq (.seq (.region [
  ⟨some 21, .mov (.t 9), none, []⟩,
  ⟨some 22, .eqn false true (.t 21), none, []⟩] [] false)
  (.cond (.t 22)
    (.seq (.region [
  ⟨some 23, .mov (.t 9), none, []⟩,
  ⟨some 6, .mov (.c (.slice none 0 0)), none, []⟩,
  ⟨some 7, .mov (.t 23), none, []⟩] [] false)
    (.ret))
    (.skip)))
  (.seq (.region [
  ⟨some 24, .mov (.t 2), none, []⟩,
  ⟨some 25, .call true [] 211 [(.t 24)], none, []⟩,
  ⟨some 26, .call true [] 210 [(.t 25)], none, []⟩,
  ⟨some 10, .mov (.t 26), none, []⟩] [] false)
  (.seq (.seq (.region [
  ⟨some 27, .mov (.t 10), none, []⟩,
  ⟨some 28, .len false (.t 27), none, []⟩,
  ⟨some 29, .mov (.c (.int .i64 0)), none, []⟩] [] false)
  (.loop ⟨[.slot 29 .int], [11, 12, 30, 31, 32, 33, 34, 35, 36, 38], [], []⟩ 0 (.seq (.region [
  ⟨some 30, .bin .int .lss (.t 29) (.t 28), none, []⟩] [] false)
    (.seq (.cond (.t 30)
      (.skip)
      (.exit 0))
    (.seq (.block 1 (.seq (.region [
  ⟨some 31, .mov (.t 29), none, []⟩,
  ⟨some 32, .ia 1 (.t 27) (.t 29), none, []⟩,
  ⟨some 33, .load none (.t 32), none, []⟩,
  ⟨some 11, .mov (.t 31), none, []⟩,
  ⟨some 12, .mov (.t 33), none, []⟩] [] false)
      (.seq (.region [
  ⟨some 34, .mov (.t 12), none, []⟩,
  ⟨some 35, .mov (.t 11), none, []⟩,
  ⟨some 36, .bin .int .neq (.t 34) (.t 35), none, []⟩] [] false)
      (.cond (.t 36)
        (.seq (.region [
  ⟨some 37, .ifc 1 (.c (.int .i64 3)), none, []⟩,
  ⟨some 6, .mov (.c (.slice none 0 0)), none, []⟩,
  ⟨some 7, .mov (.t 37), none, []⟩] [] false)
        (.ret))
        (.skip)))))
    (.region [
  ⟨some 38, .bin .int .add (.t 29) (.c (.int .i64 1)), none, []⟩,
  ⟨some 29, .mov (.t 38), none, []⟩] [] false))))))
  (.seq (.seq (.region [
  ⟨some 39, .mov (.t 10), none, []⟩,
  ⟨some 40, .len false (.t 39), none, []⟩,
  ⟨some 41, .fa 0 (.t 3), none, []⟩,
  ⟨some 42, .load none (.t 41), none, []⟩,
  ⟨some 43, .len false (.t 42), none, []⟩,
  ⟨some 44, .bin .int .neq (.t 40) (.t 43), none, []⟩] [] false)
  (.cond (.t 44)
    (.seq (.region [
  ⟨some 45, .ifc 1 (.c (.int .i64 3)), none, []⟩,
  ⟨some 6, .mov (.c (.slice none 0 0)), none, []⟩,
  ⟨some 7, .mov (.t 45), none, []⟩] [] false)
    (.ret))
    (.skip)))
  (.seq (.seq (.region [
  ⟨some 46, .mov (.t 2), none, []⟩,
  ⟨some 47, .len false (.t 46), none, []⟩,
  ⟨some 48, .mov (.c (.int .i64 0)), none, []⟩] [] false)
  (.loop ⟨[.slot 48 .int, .rowH 10018 .cell], [14, 49, 50, 51, 52, 53, 54, 55, 56], [], []⟩ 2 (.seq (.region [
  ⟨some 49, .bin .int .lss (.t 48) (.t 47), none, []⟩] [] false)
    (.seq (.cond (.t 49)
      (.skip)
      (.exit 2))
    (.seq (.block 3 (.seq (.region [
  ⟨some 50, .ia 1 (.t 46) (.t 48), none, []⟩,
  ⟨some 51, .load none (.t 50), none, []⟩,
  ⟨some 14, .mov (.t 51), none, []⟩] [] false)
      (.region [
  ⟨some 52, .load (some 1) (.t 3), none, []⟩,
  ⟨some 53, .mov (.t 8), none, []⟩,
  ⟨some 54, .mov (.t 14), none, []⟩,
  ⟨some 55, .call false [1] 54 [(.t 52), (.t 53), (.t 54)], none, []⟩] [] false)))
    (.region [
  ⟨some 56, .bin .int .add (.t 48) (.c (.int .i64 1)), none, []⟩,
  ⟨some 48, .mov (.t 56), none, []⟩] [] false))))))
  (.seq (.region [
  ⟨some 57, .mov (.t 8), none, []⟩,
  ⟨some 6, .mov (.t 57), none, []⟩,
  ⟨some 7, .mov (.c (.nilIface)), none, []⟩] [] false)
  (.ret))))))))
def tf209 : TFunc := { np := 3, nt := 58, res := [.tmp 6, .tmp 7], own := false, body := tc209 }
noncomputable def S209_L1 (y3 : (List Int)) (x4 : Int) : Option (LR Int ((List Cell) × Err)) :=
  br (decide (x4 < ((List.length y3 : Nat) : Int)))
  (bno (lookI y3 x4) fun y5 =>
  br (decide (¬ y5 = x4))
  (finO (some (([] : List Cell), Err.no (3 : Int))))
  (nxO (some (wi (x4 + (1 : Int))))))
  (dnO (some x4))
noncomputable def S209_L2 (F54 : (List Dim) → (List Cell) → Int → (Option (List Cell))) (a0 : (List Dim)) (a2 : (List Int)) (x7 : (Int × (List Cell))) : Option (LR (Int × (List Cell)) ((List Cell) × Err)) :=
  br (decide (x7.1 < ((List.length a2 : Nat) : Int)))
  (bno (lookI a2 x7.1) fun y8 =>
  bno (F54 a0 x7.2 y8) fun y9 =>
  ck (decide (List.length y9 = List.length x7.2)) <|
  nxO (some (wi (x7.1 + (1 : Int)), y9)))
  (dnO (some (x7.1, x7.2)))
noncomputable def S209 (F21 : (List Dim) → (List Entry) → (Option ((List Cell) × Err))) (F210_214 : (List Int) → (Option (List Int))) (F211 : (List Int) → (Option (List Int))) (F54 : (List Dim) → (List Cell) → Int → (Option (List Cell))) (a0 : (List Dim)) (a1 : (List Entry)) (a2 : (List Int)) : Option ((List Cell) × Err) :=
  bno (F21 a0 a1) fun y1 =>
  br (!(Err.isNil y1.2))
  (some (([] : List Cell), y1.2))
  (bno (F211 a2) fun y2 =>
  bno (F210_214 y2) fun y3 =>
  lp (S209_L1 y3) (0 : Int) fun x6 =>
  br (decide (¬ ((List.length y3 : Nat) : Int) = ((List.length a0 : Nat) : Int)))
  (some (([] : List Cell), Err.no (3 : Int)))
  (lp (S209_L2 F54 a0 a2) ((0 : Int), y1.1) fun x10 =>
  some (x10.2, Err.nil)))
theorem s209 (F21 : (List Dim) → (List Entry) → (Option ((List Cell) × Err))) (F210_214 : (List Int) → (Option (List Int))) (F211 : (List Int) → (Option (List Int))) (F54 : (List Dim) → (List Cell) → Int → (Option (List Cell))) (a0 : (List Dim)) (a1 : (List Entry)) (a2 : (List Int)) : tf209.run [⟨21, [(.st .outl), (.sl .entry)], (.tp [(.own .cell), .err]), fun x => F21 x.1 x.2, false, []⟩,
  ⟨210, [(.fnc 214 [(.bx (.sl .int))])], (.sl .int), fun x => F210_214 x, false, []⟩,
  ⟨211, [(.sl .int)], (.fnc 214 [(.bx (.sl .int))]), fun x => F211 x, false, []⟩,
  ⟨54, [(.st .outl), (.own .cell), .int], (.own .cell), fun x => F54 x.1 x.2.1 x.2.2, false, [1]⟩] [(.st .outl), (.sl .entry), (.sl .int)] (.tp [(.sl .cell), .err]) (a0, a1, a2) = S209 F21 F210_214 F211 F54 a0 a1 a2 := by kernel_rfl
noncomputable def P209 (a0 : (List Dim)) (a1 : (List Entry)) (a2 : (List Int)) : Option ((List Cell) × Err) := S209 P21 P210_214 P211 P54 a0 a1 a2
noncomputable def k209 : CSpec := ⟨209, [(.st .outl), (.sl .entry), (.sl .int)], (.tp [(.sl .cell), .err]), fun x => P209 x.1 x.2.1 x.2.2, false, []⟩
theorem r209 {S : Seat} (h : Ok1 S 209 tf209) (h21 : Rt S k21) (h210_214 : Rt S k210_214) (h211 : Rt S k211) (h54 : Rt S k54) : Rt S k209 := fun x y hy =>
  Ok1.sound h (C := [k21, k210_214, k211, k54]) (CSound.cons h21 (CSound.cons h210_214 (CSound.cons h211 (CSound.cons h54 CSound.nil)))) rfl rfl rfl ((s209 P21 P210_214 P211 P54 x.1 x.2.1 x.2.2).trans hy) rfl

/- tallyhall/tallyref1.Written -/
def tc237 : TCode :=
  .seq (.region [
  ⟨some 2, .box (.t 0), none, []⟩,
  ⟨some 4, .mov (.c (.slice none 0 0)), none, []⟩] [] false)
  (.seq (.region [
  ⟨some 5, .mov (.c (.slice none 0 0)), none, []⟩] [] false)
  (.seq (.region [
  ⟨some 9, .load (some 1) (.t 2), none, []⟩,
  ⟨some 10, .call false [] 106 [(.t 9)], none, []⟩,
  ⟨some 6, .mov (.t 10), none, []⟩] [] false)
  (.seq (.seq (.region [
  ⟨some 7, .mov (.c (.int .i64 0)), none, []⟩] [] false)
  (.loop ⟨[.row 5 24 .cell, .slot 7 .int], [8, 11, 12, 13, 14, 15, 16, 17, 18, 19, 20, 21, 22, 23, 24], [8, 23], []⟩ 0 (.seq (.seq (.region [
  ⟨some 11, .mov (.t 7), none, []⟩,
  ⟨some 12, .mov (.t 6), none, []⟩,
  ⟨some 13, .bin .int .lss (.t 11) (.t 12), none, []⟩] [] false)
    (.cond (.t 13)
      (.skip)
      (.exit 0)))
    (.seq (.block 1 (.seq (.region [
  ⟨some 16, .mov (.t 1), none, []⟩,
  ⟨some 17, .load (some 1) (.t 2), none, []⟩,
  ⟨some 18, .mov (.t 7), none, []⟩,
  ⟨some 19, .call true [] 142 [(.t 17), (.t 18)], none, []⟩,
  ⟨some 20, .call false [] 134 [(.t 16), (.t 19)], none, []⟩,
  ⟨some 8, .alloc [.int .i64 0, .int .i64 0], none, []⟩,
  ⟨none, .store 2 (.t 8) (.t 20), none, []⟩] [] false)
      (.region [
  ⟨some 21, .mov (.t 5), none, []⟩,
  ⟨some 22, .load (some 2) (.t 8), none, []⟩,
  ⟨some 23, .bslice false 2 [.int .i64 0, .int .i64 0] 1 [(0, (.t 22))], none, []⟩,
  ⟨some 24, .app 2 (.t 21) (.t 23), none, []⟩,
  ⟨some 5, .mov (.t 24), none, []⟩] [.int, .int, .cell, .cell] false)))
    (.region [
  ⟨some 14, .mov (.t 7), none, []⟩,
  ⟨some 15, .bin .int .add (.t 14) (.c (.int .i64 1)), none, []⟩,
  ⟨some 7, .mov (.t 15), none, []⟩] [] false)))))
  (.seq (.region [
  ⟨some 25, .mov (.t 5), none, []⟩,
  ⟨some 4, .mov (.t 25), none, []⟩] [] false)
  (.ret)))))
def tf237 : TFunc := { np := 2, nt := 26, res := [.tmp 4], own := false, body := tc237 }
noncomputable def S237_L1 (F134 : (List Entry) → (List Int) → (Option Cell)) (F142 : (List Dim) → Int → (Option (List Int))) (a0 : (List Dim)) (a1 : (List Entry)) (y1 : Int) (x2 : ((List Cell) × Int)) : Option (LR ((List Cell) × Int) (List Cell)) :=
  br (decide (x2.2 < y1))
  (bno (F142 a0 x2.2) fun y3 =>
  bno (F134 a1 y3) fun y4 =>
  ck (decide (List.length x2.1 + List.length ([y4] : List Cell) ≤ roomA)) <|
  nxO (some (x2.1 ++ ([y4] : List Cell), wi (x2.2 + (1 : Int)))))
  (dnO (some (x2.1, x2.2)))
noncomputable def S237 (F106 : (List Dim) → (Option Int)) (F134 : (List Entry) → (List Int) → (Option Cell)) (F142 : (List Dim) → Int → (Option (List Int))) (a0 : (List Dim)) (a1 : (List Entry)) : Option (List Cell) :=
  bno (F106 a0) fun y1 =>
  lp (S237_L1 F134 F142 a0 a1 y1) (([] : List Cell), (0 : Int)) fun x5 =>
  some x5.1
theorem s237 (F106 : (List Dim) → (Option Int)) (F134 : (List Entry) → (List Int) → (Option Cell)) (F142 : (List Dim) → Int → (Option (List Int))) (a0 : (List Dim)) (a1 : (List Entry)) : tf237.run [⟨106, [(.st .outl)], .int, fun x => F106 x, false, []⟩,
  ⟨134, [(.sl .entry), (.sl .int)], (.st .cell), fun x => F134 x.1 x.2, false, []⟩,
  ⟨142, [(.st .outl), .int], (.sl .int), fun x => F142 x.1 x.2, false, []⟩] [(.st .outl), (.sl .entry)] (.sl .cell) (a0, a1) = S237 F106 F134 F142 a0 a1 := by kernel_rfl
noncomputable def P237 (a0 : (List Dim)) (a1 : (List Entry)) : Option (List Cell) := S237 P106 P134 P142 a0 a1
noncomputable def k237 : CSpec := ⟨237, [(.st .outl), (.sl .entry)], (.sl .cell), fun x => P237 x.1 x.2, false, []⟩
theorem r237 {S : Seat} (h : Ok1 S 237 tf237) (h106 : Rt S k106) (h134 : Rt S k134) (h142 : Rt S k142) : Rt S k237 := fun x y hy =>
  Ok1.sound h (C := [k106, k134, k142]) (CSound.cons h106 (CSound.cons h134 (CSound.cons h142 CSound.nil))) rfl rfl rfl ((s237 P106 P134 P142 x.1 x.2).trans hy) rfl

/- tallyhall/tallyref1.Each -/
def tc238 : TCode :=
  .seq (.region [
  ⟨some 2, .box (.t 0), none, []⟩,
  ⟨some 4, .mov (.c (.bool false)), none, []⟩] [] false)
  (.seq (.seq (.region [
  ⟨some 7, .mov (.t 1), none, []⟩,
  ⟨some 8, .len false (.t 7), none, []⟩,
  ⟨some 9, .fa 0 (.t 2), none, []⟩,
  ⟨some 10, .load none (.t 9), none, []⟩,
  ⟨some 11, .len false (.t 10), none, []⟩,
  ⟨some 12, .bin .int .neq (.t 8) (.t 11), none, []⟩] [] false)
  (.cond (.t 12)
    (.seq (.region [
  ⟨some 4, .mov (.c (.bool false)), none, []⟩] [] false)
    (.ret))
    (.skip)))
  (.seq (.seq (.region [
  ⟨some 5, .mov (.c (.int .i64 0)), none, []⟩] [] false)
  (.loop ⟨[.slot 5 .int], [6, 13, 14, 15, 16, 17, 18, 19, 20, 21, 22, 23, 24, 25, 26, 27, 28, 29, 30, 31, 32, 33, 34, 35, 36, 37, 38, 39, 40, 41, 42, 43, 44, 45, 46], [], []⟩ 0 (.seq (.seq (.region [
  ⟨some 13, .mov (.t 5), none, []⟩,
  ⟨some 14, .mov (.t 1), none, []⟩,
  ⟨some 15, .len false (.t 14), none, []⟩,
  ⟨some 16, .bin .int .lss (.t 13) (.t 15), none, []⟩] [] false)
    (.cond (.t 16)
      (.skip)
      (.exit 0)))
    (.seq (.block 1 (.seq (.seq (.regionJ ⟨[.slot 32 .bool], [19, 20, 21, 22, 23, 24, 25, 26, 27, 28, 29, 30, 31], [], []⟩ [
  ⟨some 19, .mov (.t 1), none, []⟩,
  ⟨some 20, .mov (.t 5), none, []⟩,
  ⟨some 21, .ia 1 (.t 19) (.t 20), none, []⟩,
  ⟨some 22, .load none (.t 21), none, []⟩,
  ⟨some 23, .bin .int .lss (.t 22) (.c (.int .i64 0)), none, []⟩,
  ⟨some 24, .mov (.t 23), none, []⟩,
  ⟨some 25, .mov (.t 1), (some (24, false)), []⟩,
  ⟨some 26, .mov (.t 5), (some (24, false)), []⟩,
  ⟨some 27, .ia 1 (.t 25) (.t 26), (some (24, false)), []⟩,
  ⟨some 28, .load none (.t 27), (some (24, false)), []⟩,
  ⟨some 29, .mov (.t 1), (some (24, false)), []⟩,
  ⟨some 30, .len false (.t 29), (some (24, false)), []⟩,
  ⟨some 31, .bin .int .geq (.t 28) (.t 30), (some (24, false)), []⟩,
  ⟨some 32, .pick (.t 24) (.c (.bool true)) (.t 31), none, []⟩] [] false)
      (.cond (.t 32)
        (.seq (.region [
  ⟨some 4, .mov (.c (.bool false)), none, []⟩] [] false)
        (.ret))
        (.skip)))
      (.seq (.region [
  ⟨some 6, .mov (.c (.int .i64 0)), none, []⟩] [] false)
      (.loop ⟨[.slot 6 .int], [33, 34, 35, 36, 37, 38, 39, 40, 41, 42, 43, 44, 45, 46], [], []⟩ 2 (.seq (.seq (.region [
  ⟨some 33, .mov (.t 6), none, []⟩,
  ⟨some 34, .mov (.t 5), none, []⟩,
  ⟨some 35, .bin .int .lss (.t 33) (.t 34), none, []⟩] [] false)
        (.cond (.t 35)
          (.skip)
          (.exit 2)))
        (.seq (.block 3 (.seq (.region [
  ⟨some 38, .mov (.t 1), none, []⟩,
  ⟨some 39, .mov (.t 6), none, []⟩,
  ⟨some 40, .ia 1 (.t 38) (.t 39), none, [0, 1]⟩,
  ⟨some 41, .load none (.t 40), none, [2]⟩,
  ⟨some 42, .mov (.t 1), none, []⟩,
  ⟨some 43, .mov (.t 5), none, []⟩,
  ⟨some 44, .ia 1 (.t 42) (.t 43), none, [4, 5]⟩,
  ⟨some 45, .load none (.t 44), none, [6]⟩,
  ⟨some 46, .bin .int .eql (.t 41) (.t 45), none, [3, 7]⟩] [] true)
          (.cond (.t 46)
            (.seq (.region [
  ⟨some 4, .mov (.c (.bool false)), none, []⟩] [] false)
            (.ret))
            (.skip))))
        (.region [
  ⟨some 36, .mov (.t 6), none, []⟩,
  ⟨some 37, .bin .int .add (.t 36) (.c (.int .i64 1)), none, []⟩,
  ⟨some 6, .mov (.t 37), none, []⟩] [] false)))))))
    (.region [
  ⟨some 17, .mov (.t 5), none, []⟩,
  ⟨some 18, .bin .int .add (.t 17) (.c (.int .i64 1)), none, []⟩,
  ⟨some 5, .mov (.t 18), none, []⟩] [] false)))))
  (.seq (.region [
  ⟨some 4, .mov (.c (.bool true)), none, []⟩] [] false)
  (.ret))))
def tf238 : TFunc := { np := 2, nt := 47, res := [.tmp 4], own := false, body := tc238 }
noncomputable def S238_L1 (a1 : (List Int)) (x1 : Int) (x5 : Int) : Option (LR Int (LR Int Bool)) :=
  br (decide (x5 < x1))
  (bno (lookI a1 x5) fun y6 =>
  bno (lookI a1 x1) fun y7 =>
  br (decide (y6 = y7))
  (finO (finO (some false)))
  (nxO (some (wi (x5 + (1 : Int))))))
  (dnO (some x5))
noncomputable def S238_L2 (a1 : (List Int)) (x1 : Int) : Option (LR Int Bool) :=
  br (decide (x1 < ((List.length a1 : Nat) : Int)))
  (jn (σ := Bool) (α := (LR Int Bool)) (bno (lookI a1 x1) fun y2 =>
  br (decide (y2 < (0 : Int)))
  (inlO (some true))
  (bno (lookI a1 x1) fun y3 =>
  inlO (some (decide (((List.length a1 : Nat) : Int) ≤ y3))))) fun x4 =>
  br x4
  (finO (some false))
  (lp (S238_L1 a1 x1) (0 : Int) fun x8 =>
  nxO (some (wi (x1 + (1 : Int))))))
  (dnO (some x1))
noncomputable def S238 (a0 : (List Dim)) (a1 : (List Int)) : Option Bool :=
  br (decide (¬ ((List.length a1 : Nat) : Int) = ((List.length a0 : Nat) : Int)))
  (some false)
  (lp (S238_L2 a1) (0 : Int) fun x9 =>
  some true)
theorem s238 (a0 : (List Dim)) (a1 : (List Int)) : tf238.run [] [(.st .outl), (.sl .int)] .bool (a0, a1) = S238 a0 a1 := by kernel_rfl
noncomputable def P238 (a0 : (List Dim)) (a1 : (List Int)) : Option Bool := S238 a0 a1
noncomputable def k238 : CSpec := ⟨238, [(.st .outl), (.sl .int)], .bool, fun x => P238 x.1 x.2, false, []⟩
theorem r238 {S : Seat} (h : Ok1 S 238 tf238) : Rt S k238 := fun x y hy =>
  Ok1.sound h (C := []) CSound.nil rfl rfl rfl ((s238 x.1 x.2).trans hy) rfl

/- tallyhall/tallyref1.With -/
def tc250 : TCode :=
  .seq (.region [
  ⟨some 6, .mov (.c (.slice none 0 0)), none, []⟩] [] false)
  (.seq (.region [
  ⟨some 7, .mov (.c (.slice none 0 0)), none, []⟩] [] false)
  (.seq (.region [
  ⟨some 8, .mov (.t 7), none, []⟩,
  ⟨some 9, .mov (.t 0), none, []⟩,
  ⟨some 10, .app 1 (.t 8) (.t 9), none, []⟩,
  ⟨some 7, .mov (.t 10), none, []⟩] [] false)
  (.seq (.region [
  ⟨some 11, .mov (.t 7), none, []⟩,
  ⟨some 12, .mov (.t 1), none, []⟩,
  ⟨some 13, .mov (.t 2), none, []⟩,
  ⟨some 14, .ia 1 (.t 11) (.t 12), none, []⟩,
  ⟨none, .store 1 (.t 14) (.t 13), none, []⟩] [] false)
  (.seq (.region [
  ⟨some 15, .mov (.t 7), none, []⟩,
  ⟨some 6, .mov (.t 15), none, []⟩] [] false)
  (.ret)))))
def tf250 : TFunc := { np := 3, nt := 16, res := [.tmp 6], own := false, body := tc250 }
noncomputable def S250 (a0 : (List Int)) (a1 : Int) (a2 : Int) : Option (List Int) :=
  ck (decide (List.length a0 ≤ roomA)) <|
  ck (decide (0 ≤ a1 ∧ a1 < ((List.length a0 : Nat) : Int))) <|
  bno ((a0)[(Int.toNat a1)]?) fun y1 =>
  some (List.set a0 (Int.toNat a1) a2)
theorem s250 (a0 : (List Int)) (a1 : Int) (a2 : Int) : tf250.run [] [(.sl .int), .int, .int] (.sl .int) (a0, a1, a2) = S250 a0 a1 a2 := by kernel_rfl
noncomputable def P250 (a0 : (List Int)) (a1 : Int) (a2 : Int) : Option (List Int) := S250 a0 a1 a2
noncomputable def k250 : CSpec := ⟨250, [(.sl .int), .int, .int], (.sl .int), fun x => P250 x.1 x.2.1 x.2.2, false, []⟩
theorem r250 {S : Seat} (h : Ok1 S 250 tf250) : Rt S k250 := fun x y hy =>
  Ok1.sound h (C := []) CSound.nil rfl rfl rfl ((s250 x.1 x.2.1 x.2.2).trans hy) rfl

/- tallyhall/tallyref1.Fold -/
def tc239 : TCode :=
  .seq (.region [
  ⟨some 3, .box (.t 0), none, []⟩,
  ⟨some 6, .mov (.c (.slice none 0 0)), none, []⟩] [] false)
  (.seq (.region [
  ⟨some 7, .mov (.c (.slice none 0 0)), none, []⟩] [] false)
  (.seq (.region [
  ⟨some 16, .mov (.t 7), none, []⟩,
  ⟨some 17, .mov (.t 1), none, []⟩,
  ⟨some 18, .app 2 (.t 16) (.t 17), none, []⟩,
  ⟨some 7, .mov (.t 18), none, []⟩] [.int, .int, .cell] false)
  (.seq (.region [
  ⟨some 19, .fa 0 (.t 3), none, []⟩,
  ⟨some 20, .load none (.t 19), none, []⟩,
  ⟨some 21, .mov (.t 2), none, []⟩,
  ⟨some 22, .ia 3 (.t 20) (.t 21), none, []⟩,
  ⟨some 23, .load (some 3) (.t 22), none, []⟩,
  ⟨some 8, .alloc [.string ⟨#[]⟩, .int .i64 0, .slice none 0 0], none, []⟩,
  ⟨none, .store 3 (.t 8) (.t 23), none, []⟩] [] false)
  (.seq (.seq (.region [
  ⟨some 24, .fa 2 (.t 8), none, []⟩,
  ⟨some 25, .load none (.t 24), none, []⟩,
  ⟨some 26, .len false (.t 25), none, []⟩,
  ⟨some 27, .bin .int .sub (.t 26) (.c (.int .i64 1)), none, []⟩,
  ⟨some 9, .mov (.t 27), none, []⟩] [] false)
  (.loop ⟨[.slot 9 .int, .rowH 18 .cell], [10, 11, 12, 13, 14, 15, 28, 29, 30, 31, 32, 33, 34, 35, 36, 37, 38, 39, 40, 41, 42, 43, 44, 45, 46, 47, 48, 49, 50, 51, 52, 53, 54, 55, 56, 57, 58, 59, 60, 61, 62, 63, 64, 65, 66, 67, 68, 69, 70, 71, 72, 73, 74, 75, 76, 77, 78, 79, 80, 81, 82, 83, 84, 85, 86, 87, 88, 89, 90], [13], []⟩ 0 (.seq (.seq (.region [
  ⟨some 28, .mov (.t 9), none, []⟩,
  ⟨some 29, .bin .int .geq (.t 28) (.c (.int .i64 0)), none, []⟩] [] false)
    (.cond (.t 29)
      (.skip)
      (.exit 0)))
    (.seq (.block 1 (.seq (.region [
  ⟨some 32, .load (some 3) (.t 8), none, []⟩,
  ⟨some 33, .mov (.t 9), none, []⟩,
  ⟨some 34, .call true [] 100 [(.t 32), (.t 33)], none, []⟩,
  ⟨some 10, .mov (.t 34), none, []⟩] [] false)
      (.seq (.region [
  ⟨some 11, .mov (.c (.int .i64 0)), none, []⟩] [] false)
      (.loop ⟨[.slot 11 .int, .rowH 18 .cell], [12, 13, 14, 15, 35, 36, 37, 38, 39, 40, 41, 42, 43, 44, 45, 46, 47, 48, 49, 50, 51, 52, 53, 54, 55, 56, 57, 58, 59, 60, 61, 62, 63, 64, 65, 66, 67, 68, 69, 70, 71, 72, 73, 74, 75, 76, 77, 78, 79, 80, 81, 82, 83, 84, 85, 86, 87, 88, 89, 90], [13], []⟩ 2 (.seq (.seq (.regionJ ⟨[.slot 43 .bool], [35, 36, 37, 38, 39, 40, 41, 42], [], []⟩ [
  ⟨some 35, .mov (.t 11), none, []⟩,
  ⟨some 36, .mov (.t 7), none, []⟩,
  ⟨some 37, .len false (.t 36), none, []⟩,
  ⟨some 38, .bin .int .lss (.t 35) (.t 37), none, []⟩,
  ⟨some 39, .mov (.t 38), none, []⟩,
  ⟨some 40, .mov (.t 10), (some (39, true)), []⟩,
  ⟨some 41, .len false (.t 40), (some (39, true)), []⟩,
  ⟨some 42, .bin .int .gtr (.t 41) (.c (.int .i64 0)), (some (39, true)), []⟩,
  ⟨some 43, .pick (.t 39) (.t 42) (.c (.bool false)), none, []⟩] [] false)
        (.cond (.t 43)
          (.skip)
          (.exit 2)))
        (.seq (.blockJ ⟨[.rowH 18 .cell], [12, 13, 14, 15, 46, 47, 48, 49, 50, 51, 52, 53, 54, 55, 56, 57, 58, 59, 60, 61, 62, 63, 64, 65, 66, 67, 68, 69, 70, 71, 72, 73, 74, 75, 76, 77, 78, 79, 80, 81, 82, 83, 84, 85, 86, 87, 88, 89, 90], [13], []⟩ 3 (.seq (.region [
  ⟨some 46, .load (some 1) (.t 3), none, []⟩,
  ⟨some 47, .mov (.t 11), none, []⟩,
  ⟨some 48, .call true [] 142 [(.t 46), (.t 47)], none, []⟩,
  ⟨some 12, .mov (.t 48), none, []⟩] [] false)
          (.seq (.seq (.region [
  ⟨some 49, .mov (.t 12), none, []⟩,
  ⟨some 50, .mov (.t 2), none, []⟩,
  ⟨some 51, .ia 1 (.t 49) (.t 50), none, []⟩,
  ⟨some 52, .load none (.t 51), none, []⟩,
  ⟨some 53, .mov (.t 9), none, []⟩,
  ⟨some 54, .bin .int .neq (.t 52) (.t 53), none, []⟩] [] false)
          (.cond (.t 54)
            (.exit 3)
            (.skip)))
          (.seq (.region [
  ⟨some 13, .alloc [.int .i64 0, .int .i64 0], none, []⟩] [] false)
          (.seq (.seq (.region [
  ⟨some 14, .mov (.c (.int .i64 0)), none, []⟩] [] false)
          (.loop ⟨[.slot 14 .int, .var 13 [.sh .int, .sh .int]], [15, 55, 56, 57, 58, 59, 60, 61, 62, 63, 64, 65, 66, 67, 68, 69, 70, 71, 72, 73, 74, 75, 76, 77, 78, 79, 80, 81, 82, 83, 84, 85, 86], [], []⟩ 4 (.seq (.seq (.region [
  ⟨some 55, .mov (.t 14), none, []⟩,
  ⟨some 56, .mov (.t 10), none, []⟩,
  ⟨some 57, .len false (.t 56), none, []⟩,
  ⟨some 58, .bin .int .lss (.t 55) (.t 57), none, []⟩] [] false)
            (.cond (.t 58)
              (.skip)
              (.exit 4)))
            (.seq (.block 5 (.seq (.region [
  ⟨some 61, .fa 2 (.t 8), none, []⟩,
  ⟨some 62, .load none (.t 61), none, [0]⟩,
  ⟨some 63, .mov (.t 10), none, []⟩,
  ⟨some 64, .mov (.t 14), none, []⟩,
  ⟨some 65, .ia 1 (.t 63) (.t 64), none, [2, 3]⟩,
  ⟨some 66, .load none (.t 65), none, [4]⟩,
  ⟨some 67, .ia 4 (.t 62) (.t 66), none, [1, 5]⟩,
  ⟨some 68, .fa 2 (.t 67), none, [6]⟩,
  ⟨some 69, .load none (.t 68), none, [7]⟩,
  ⟨some 15, .mov (.t 69), none, [8, 0, 1, 2, 3, 4, 5, 6, 7, 8]⟩] [] true)
              (.seq (.region [
  ⟨some 70, .mov (.t 15), none, []⟩,
  ⟨some 71, .bin .int .neq (.t 70) (.c (.int .i64 0)), none, []⟩] [] false)
              (.condJ ⟨[.var 13 [.sh .int, .sh .int]], [72, 73, 74, 75, 76, 77, 78, 79, 80, 81, 82, 83, 84, 85, 86], [], []⟩ (.t 71)
                (.region [
  ⟨some 72, .load (some 2) (.t 13), none, []⟩,
  ⟨some 73, .mov (.t 7), none, []⟩,
  ⟨some 74, .load (some 1) (.t 3), none, []⟩,
  ⟨some 75, .mov (.t 12), none, []⟩,
  ⟨some 76, .mov (.t 2), none, []⟩,
  ⟨some 77, .mov (.t 10), none, []⟩,
  ⟨some 78, .mov (.t 14), none, []⟩,
  ⟨some 79, .ia 1 (.t 77) (.t 78), none, [5, 6]⟩,
  ⟨some 80, .load none (.t 79), none, [7]⟩,
  ⟨some 81, .call true [] 250 [(.t 75), (.t 76), (.t 80)], none, [3, 4, 8]⟩,
  ⟨some 82, .call false [] 140 [(.t 74), (.t 81)], none, [2, 9, 9]⟩,
  ⟨some 83, .ia 2 (.t 73) (.t 82), none, [1, 10]⟩,
  ⟨some 84, .load (some 2) (.t 83), none, [11]⟩,
  ⟨some 85, .mov (.t 15), none, []⟩,
  ⟨some 86, .call false [] 146 [(.t 72), (.t 84), (.t 85)], none, [0, 12, 13, 10]⟩,
  ⟨none, .store 2 (.t 13) (.t 86), none, [14, 14, 0, 1, 2, 3, 4, 5, 6, 7, 8, 9, 10, 11, 12, 13, 14]⟩] [] true)
                (.skip)))))
            (.region [
  ⟨some 59, .mov (.t 14), none, []⟩,
  ⟨some 60, .bin .int .add (.t 59) (.c (.int .i64 1)), none, []⟩,
  ⟨some 14, .mov (.t 60), none, []⟩] [] false)))))
          (.region [
  ⟨some 87, .mov (.t 7), none, []⟩,
  ⟨some 88, .mov (.t 11), none, []⟩,
  ⟨some 89, .load (some 2) (.t 13), none, []⟩,
  ⟨some 90, .ia 2 (.t 87) (.t 88), none, []⟩,
  ⟨none, .store 2 (.t 90) (.t 89), none, []⟩] [] false))))))
        (.region [
  ⟨some 44, .mov (.t 11), none, []⟩,
  ⟨some 45, .bin .int .add (.t 44) (.c (.int .i64 1)), none, []⟩,
  ⟨some 11, .mov (.t 45), none, []⟩] [] false)))))))
    (.region [
  ⟨some 30, .mov (.t 9), none, []⟩,
  ⟨some 31, .bin .int .sub (.t 30) (.c (.int .i64 1)), none, []⟩,
  ⟨some 9, .mov (.t 31), none, []⟩] [] false)))))
  (.seq (.region [
  ⟨some 91, .mov (.t 7), none, []⟩,
  ⟨some 6, .mov (.t 91), none, []⟩] [] false)
  (.ret))))))
def tf239 : TFunc := { np := 3, nt := 92, res := [.tmp 6], own := false, body := tc239 }
noncomputable def S239_L1 (F140 : (List Dim) → (List Int) → (Option Int)) (F146 : Cell → Cell → Int → (Option Cell)) (F250 : (List Int) → Int → Int → (Option (List Int))) (a0 : (List Dim)) (a2 : Int) (y1 : Dim) (y3 : (List Int)) (x4 : (Int × (List Cell))) (y6 : (List Int)) (x8 : (Int × (Int × Int))) : Option (LR (Int × (Int × Int)) (Sum (List Cell) (LR (Int × (List Cell)) (LR (Int × (List Cell)) (List Cell))))) :=
  br (decide (x8.1 < ((List.length y3 : Nat) : Int)))
  (bno (lookI y3 x8.1) fun y9 =>
  bno (lookI (Dim.members y1) y9) fun y10 =>
  jn (σ := (Int × Int)) (α := (LR (Int × (Int × Int)) (Sum (List Cell) (LR (Int × (List Cell)) (LR (Int × (List Cell)) (List Cell)))))) (br (decide (¬ (Member.sign y10) = (0 : Int)))
  (bno (lookI y3 x8.1) fun y11 =>
  bno (F250 y6 a2 y11) fun y12 =>
  bno (F140 a0 y12) fun y13 =>
  ck (decide (0 ≤ y13 ∧ y13 < ((List.length x4.2 : Nat) : Int))) <|
  bno ((x4.2)[(Int.toNat y13)]?) fun y14 =>
  bno (F146 (Cell.mk x8.2.1 x8.2.2) y14 (Member.sign y10)) fun y15 =>
  inlO (some (Cell.k y15, Cell.n y15)))
  (inlO (some (x8.2.1, x8.2.2)))) fun x16 =>
  nxO (some (wi (x8.1 + (1 : Int)), (x16.1, x16.2))))
  (dnO (some (x8.1, (x8.2.1, x8.2.2))))
noncomputable def S239_L2 (F140 : (List Dim) → (List Int) → (Option Int)) (F142 : (List Dim) → Int → (Option (List Int))) (F146 : Cell → Cell → Int → (Option Cell)) (F250 : (List Int) → Int → Int → (Option (List Int))) (a0 : (List Dim)) (a2 : Int) (y1 : Dim) (x2 : (Int × (List Cell))) (y3 : (List Int)) (x4 : (Int × (List Cell))) : Option (LR (Int × (List Cell)) (LR (Int × (List Cell)) (List Cell))) :=
  jn (σ := Bool) (α := (LR (Int × (List Cell)) (LR (Int × (List Cell)) (List Cell)))) (br (decide (x4.1 < ((List.length x4.2 : Nat) : Int)))
  (inlO (some (decide ((0 : Int) < ((List.length y3 : Nat) : Int)))))
  (inlO (some false))) fun x5 =>
  br x5
  (jn (σ := (List Cell)) (α := (LR (Int × (List Cell)) (LR (Int × (List Cell)) (List Cell)))) (bno (F142 a0 x4.1) fun y6 =>
  bno (lookI y6 a2) fun y7 =>
  br (decide (¬ y7 = x2.1))
  (inlO (some x4.2))
  (lp (S239_L1 F140 F146 F250 a0 a2 y1 y3 x4 y6) ((0 : Int), ((0 : Int), (0 : Int))) fun x17 =>
  ck (decide (0 ≤ x4.1 ∧ x4.1 < ((List.length x4.2 : Nat) : Int))) <|
  bno ((x4.2)[(Int.toNat x4.1)]?) fun y18 =>
  inlO (some (List.set x4.2 (Int.toNat x4.1) (Cell.mk x17.2.1 x17.2.2))))) fun x19 =>
  nxO (some (wi (x4.1 + (1 : Int)), x19)))
  (dnO (some (x4.1, x4.2)))
noncomputable def S239_L3 (F100 : Dim → Int → (Option (List Int))) (F140 : (List Dim) → (List Int) → (Option Int)) (F142 : (List Dim) → Int → (Option (List Int))) (F146 : Cell → Cell → Int → (Option Cell)) (F250 : (List Int) → Int → Int → (Option (List Int))) (a0 : (List Dim)) (a2 : Int) (y1 : Dim) (x2 : (Int × (List Cell))) : Option (LR (Int × (List Cell)) (List Cell)) :=
  br (decide ((0 : Int) ≤ x2.1))
  (bno (F100 y1 x2.1) fun y3 =>
  lp (S239_L2 F140 F142 F146 F250 a0 a2 y1 x2 y3) ((0 : Int), x2.2) fun x20 =>
  nxO (some (wi (x2.1 - (1 : Int)), x20.2)))
  (dnO (some (x2.1, x2.2)))
noncomputable def S239 (F100 : Dim → Int → (Option (List Int))) (F140 : (List Dim) → (List Int) → (Option Int)) (F142 : (List Dim) → Int → (Option (List Int))) (F146 : Cell → Cell → Int → (Option Cell)) (F250 : (List Int) → Int → Int → (Option (List Int))) (a0 : (List Dim)) (a1 : (List Cell)) (a2 : Int) : Option (List Cell) :=
  ck (decide (List.length a1 ≤ roomA)) <|
  bno (lookI a0 a2) fun y1 =>
  lp (S239_L3 F100 F140 F142 F146 F250 a0 a2 y1) (wi (((List.length (Dim.members y1) : Nat) : Int) - (1 : Int)), a1) fun x21 =>
  some x21.2
theorem s239 (F100 : Dim → Int → (Option (List Int))) (F140 : (List Dim) → (List Int) → (Option Int)) (F142 : (List Dim) → Int → (Option (List Int))) (F146 : Cell → Cell → Int → (Option Cell)) (F250 : (List Int) → Int → Int → (Option (List Int))) (a0 : (List Dim)) (a1 : (List Cell)) (a2 : Int) : tf239.run [⟨100, [(.st .dim), .int], (.sl .int), fun x => F100 x.1 x.2, false, []⟩,
  ⟨140, [(.st .outl), (.sl .int)], .int, fun x => F140 x.1 x.2, false, []⟩,
  ⟨142, [(.st .outl), .int], (.sl .int), fun x => F142 x.1 x.2, false, []⟩,
  ⟨146, [(.st .cell), (.st .cell), .int], (.st .cell), fun x => F146 x.1 x.2.1 x.2.2, false, []⟩,
  ⟨250, [(.sl .int), .int, .int], (.sl .int), fun x => F250 x.1 x.2.1 x.2.2, false, []⟩] [(.st .outl), (.sl .cell), .int] (.sl .cell) (a0, a1, a2) = S239 F100 F140 F142 F146 F250 a0 a1 a2 := by kernel_rfl
noncomputable def P239 (a0 : (List Dim)) (a1 : (List Cell)) (a2 : Int) : Option (List Cell) := S239 P100 P140 P142 P146 P250 a0 a1 a2
noncomputable def k239 : CSpec := ⟨239, [(.st .outl), (.sl .cell), .int], (.sl .cell), fun x => P239 x.1 x.2.1 x.2.2, false, []⟩
theorem r239 {S : Seat} (h : Ok1 S 239 tf239) (h100 : Rt S k100) (h140 : Rt S k140) (h142 : Rt S k142) (h146 : Rt S k146) (h250 : Rt S k250) : Rt S k239 := fun x y hy =>
  Ok1.sound h (C := [k100, k140, k142, k146, k250]) (CSound.cons h100 (CSound.cons h140 (CSound.cons h142 (CSound.cons h146 (CSound.cons h250 CSound.nil))))) rfl rfl rfl ((s239 P100 P140 P142 P146 P250 x.1 x.2.1 x.2.2).trans hy) rfl

end Ab
