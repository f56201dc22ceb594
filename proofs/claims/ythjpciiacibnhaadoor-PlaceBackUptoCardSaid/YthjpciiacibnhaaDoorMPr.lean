/-
  Functions of the program as typed code, what they come to, and their contracts: written by program (mk.py).
-/
import Derived.Test.YthjpciiacibnhaaDoorB2
import Derived.KernelRfl
import Derived.Test.YthjpciiacibnhaaDoorMO
import Derived.Test.YthjpciiacibnhaaDoorMP2
import Derived.Test.YthjpciiacibnhaaDoorMR
import Derived.Test.YthjpciiacibnhaaDoorMSp
namespace Ab
open Go
set_option linter.unusedVariables false
set_option maxRecDepth 100000

/- tallyhall/tallyref1.Cut -/
def tc158 : TCode :=
  .seq (.region [
  ⟨some 4, .mov (.c (.slice none 0 0)), none, []⟩] [] false)
  (.seq (.region [
  ⟨some 5, .mov (.c (.slice none 0 0)), none, []⟩] [] false)
  (.seq (.region [
  ⟨some 6, .mov (.c (.int .i64 0)), none, []⟩] [] false)
  (.seq (.seq (.region [
  ⟨some 7, .mov (.c (.int .i64 0)), none, []⟩] [] false)
  (.loop ⟨[.row 5 25 .str, .slot 6 .int, .slot 7 .int], [8, 9, 10, 11, 12, 13, 14, 15, 16, 17, 18, 19, 20, 21, 22, 23, 24, 25, 26, 27], [24], []⟩ 0 (.seq (.seq (.region [
  ⟨some 8, .mov (.t 7), none, []⟩,
  ⟨some 9, .mov (.t 0), none, []⟩,
  ⟨some 10, .len true (.t 9), none, []⟩,
  ⟨some 11, .bin .int .lss (.t 8) (.t 10), none, []⟩] [] false)
    (.cond (.t 11)
      (.skip)
      (.exit 0)))
    (.seq (.block 1 (.seq (.region [
  ⟨some 14, .mov (.t 0), none, []⟩,
  ⟨some 15, .mov (.t 7), none, []⟩,
  ⟨some 16, .ix (.t 14) (.t 15), none, []⟩,
  ⟨some 17, .mov (.t 1), none, []⟩,
  ⟨some 18, .bin .int .eql (.t 16) (.t 17), none, []⟩] [] false)
      (.condJ ⟨[.row 5 25 .str, .slot 6 .int], [19, 20, 21, 22, 23, 24, 25, 26, 27], [24], []⟩ (.t 18)
        (.seq (.region [
  ⟨some 19, .mov (.t 5), none, []⟩,
  ⟨some 20, .mov (.t 0), none, []⟩,
  ⟨some 21, .mov (.t 6), none, []⟩,
  ⟨some 22, .mov (.t 7), none, []⟩,
  ⟨some 23, .slc 0 (.t 20) (some (.t 21)) (some (.t 22)), none, []⟩,
  ⟨some 24, .bslice false 1 [.string ⟨#[]⟩] 1 [(0, (.t 23))], none, []⟩,
  ⟨some 25, .app 1 (.t 19) (.t 24), none, []⟩,
  ⟨some 5, .mov (.t 25), none, []⟩] [.int, .int, .int, .int, .int, .str, .str] false)
        (.region [
  ⟨some 26, .mov (.t 7), none, []⟩,
  ⟨some 27, .bin .int .add (.t 26) (.c (.int .i64 1)), none, []⟩,
  ⟨some 6, .mov (.t 27), none, []⟩] [] false))
        (.skip))))
    (.region [
  ⟨some 12, .mov (.t 7), none, []⟩,
  ⟨some 13, .bin .int .add (.t 12) (.c (.int .i64 1)), none, []⟩,
  ⟨some 7, .mov (.t 13), none, []⟩] [] false)))))
  (.seq (.region [
  ⟨some 28, .mov (.t 5), none, []⟩,
  ⟨some 29, .mov (.t 0), none, []⟩,
  ⟨some 30, .mov (.t 6), none, []⟩,
  ⟨some 31, .slc 0 (.t 29) (some (.t 30)) none, none, []⟩,
  ⟨some 32, .bslice false 1 [.string ⟨#[]⟩] 1 [(0, (.t 31))], none, []⟩,
  ⟨some 33, .app 1 (.t 28) (.t 32), none, []⟩,
  ⟨some 4, .mov (.t 33), none, []⟩] [.int, .int, .int, .int, .str, .str] false)
  (.ret)))))
def tf158 : TFunc := { np := 2, nt := 34, res := [.tmp 4], own := false, body := tc158 }
noncomputable def S158_L1 (a0 : ByteArray) (a1 : Int) (x1 : ((List ByteArray) × Int × Int)) : Option (LR ((List ByteArray) × Int × Int) (List ByteArray)) :=
  br (decide (x1.2.2 < ((ByteArray.size a0 : Nat) : Int)))
  (bno (lookI (ByteArray.data a0).toList x1.2.2) fun y2 =>
  jn (σ := ((List ByteArray) × Int)) (α := (LR ((List ByteArray) × Int × Int) (List ByteArray))) (br (decide (((UInt8.toNat y2 : Nat) : Int) = a1))
  (ck (decide (0 ≤ x1.2.1 ∧ x1.2.1 ≤ x1.2.2 ∧ x1.2.2 ≤ ((ByteArray.size a0 : Nat) : Int))) <|
  ck (decide (List.length x1.1 + List.length ([ByteArray.extract a0 (Int.toNat x1.2.1) (Int.toNat x1.2.2)] : List ByteArray) ≤ roomA)) <|
  inlO (some (x1.1 ++ ([ByteArray.extract a0 (Int.toNat x1.2.1) (Int.toNat x1.2.2)] : List ByteArray), wi (x1.2.2 + (1 : Int)))))
  (inlO (some (x1.1, x1.2.1)))) fun x3 =>
  nxO (some (x3.1, x3.2, wi (x1.2.2 + (1 : Int)))))
  (dnO (some (x1.1, x1.2.1, x1.2.2)))
noncomputable def S158 (a0 : ByteArray) (a1 : Int) : Option (List ByteArray) :=
  lp (S158_L1 a0 a1) (([] : List ByteArray), (0 : Int), (0 : Int)) fun x4 =>
  ck (decide (0 ≤ x4.2.1 ∧ x4.2.1 ≤ ((ByteArray.size a0 : Nat) : Int) ∧ ((ByteArray.size a0 : Nat) : Int) ≤ ((ByteArray.size a0 : Nat) : Int))) <|
  ck (decide (List.length x4.1 + List.length ([ByteArray.extract a0 (Int.toNat x4.2.1) (Int.toNat ((ByteArray.size a0 : Nat) : Int))] : List ByteArray) ≤ roomA)) <|
  some (x4.1 ++ ([ByteArray.extract a0 (Int.toNat x4.2.1) (Int.toNat ((ByteArray.size a0 : Nat) : Int))] : List ByteArray))
theorem s158 (a0 : ByteArray) (a1 : Int) : tf158.run [] [.str, .u8] (.sl .str) (a0, a1) = S158 a0 a1 := by kernel_rfl
noncomputable def P158 (a0 : ByteArray) (a1 : Int) : Option (List ByteArray) := S158 a0 a1
noncomputable def k158 : CSpec := ⟨158, [.str, .u8], (.sl .str), fun x => P158 x.1 x.2, false, []⟩
theorem r158 {S : Seat} (h : Ok1 S 158 tf158) : Rt S k158 := fun x y hy =>
  Ok1.sound h (C := []) CSound.nil rfl rfl rfl ((s158 x.1 x.2).trans hy) rfl

/- slices.Index[tallyhall/api.Place,int] -/
def tc163 : TCode :=
  .seq (.region [
  ⟨some 4, .mov (.c (.int .i64 0)), none, []⟩] [] false)
  (.seq (.seq (.region [
  ⟨some 6, .mov (.t 0), none, []⟩,
  ⟨some 7, .len false (.t 6), none, []⟩,
  ⟨some 8, .mov (.c (.int .i64 0)), none, []⟩] [] false)
  (.loop ⟨[.slot 8 .int], [5, 9, 10, 11, 12, 13, 14, 15, 16, 18], [], []⟩ 0 (.seq (.region [
  ⟨some 9, .bin .int .lss (.t 8) (.t 7), none, []⟩] [] false)
    (.seq (.cond (.t 9)
      (.skip)
      (.exit 0))
    (.seq (.block 1 (.seq (.region [
  ⟨some 10, .mov (.t 8), none, []⟩,
  ⟨some 5, .mov (.t 10), none, []⟩] [] false)
      (.seq (.region [
  ⟨some 11, .mov (.t 1), none, []⟩,
  ⟨some 12, .mov (.t 0), none, []⟩,
  ⟨some 13, .mov (.t 5), none, []⟩,
  ⟨some 14, .ia 1 (.t 12) (.t 13), none, []⟩,
  ⟨some 15, .load none (.t 14), none, []⟩,
  ⟨some 16, .bin .int .eql (.t 11) (.t 15), none, []⟩] [] false)
      (.cond (.t 16)
        (.seq (.region [
  ⟨some 17, .mov (.t 5), none, []⟩,
  ⟨some 4, .mov (.t 17), none, []⟩] [] false)
        (.ret))
        (.skip)))))
    (.region [
  ⟨some 18, .bin .int .add (.t 8) (.c (.int .i64 1)), none, []⟩,
  ⟨some 8, .mov (.t 18), none, []⟩] [] false))))))
  (.seq (.region [
  ⟨some 4, .mov (.c (.int .i64 (-1))), none, []⟩] [] false)
  (.ret)))
def tf163 : TFunc := { np := 2, nt := 19, res := [.tmp 4], own := false, body := tc163 }
noncomputable def S163_L1 (a0 : (List Int)) (a1 : Int) (x1 : Int) : Option (LR Int Int) :=
  br (decide (x1 < ((List.length a0 : Nat) : Int)))
  (bno (lookI a0 x1) fun y2 =>
  br (decide (a1 = y2))
  (finO (some x1))
  (nxO (some (wi (x1 + (1 : Int))))))
  (dnO (some x1))
noncomputable def S163 (a0 : (List Int)) (a1 : Int) : Option Int :=
  lp (S163_L1 a0 a1) (0 : Int) fun x3 =>
  some (-1 : Int)
theorem s163 (a0 : (List Int)) (a1 : Int) : tf163.run [] [(.sl .int), .int] .int (a0, a1) = S163 a0 a1 := by kernel_rfl
noncomputable def P163 (a0 : (List Int)) (a1 : Int) : Option Int := S163 a0 a1
noncomputable def k163 : CSpec := ⟨163, [(.sl .int), .int], .int, fun x => P163 x.1 x.2, false, []⟩
theorem r163 {S : Seat} (h : Ok1 S 163 tf163) : Rt S k163 := fun x y hy =>
  Ok1.sound h (C := []) CSound.nil rfl rfl rfl ((s163 x.1 x.2).trans hy) rfl

/- slices.Contains[tallyhall/api.Place,int] -/
def tc153 : TCode :=
  .seq (.region [
  ⟨some 4, .mov (.c (.bool false)), none, []⟩] [] false)
  (.seq (.region [
  ⟨some 5, .mov (.t 0), none, []⟩,
  ⟨some 6, .mov (.t 1), none, []⟩,
  ⟨some 7, .call false [] 163 [(.t 5), (.t 6)], none, []⟩,
  ⟨some 8, .bin .int .geq (.t 7) (.c (.int .i64 0)), none, []⟩,
  ⟨some 4, .mov (.t 8), none, []⟩] [] false)
  (.ret))
def tf153 : TFunc := { np := 2, nt := 9, res := [.tmp 4], own := false, body := tc153 }
noncomputable def S153 (F163 : (List Int) → Int → (Option Int)) (a0 : (List Int)) (a1 : Int) : Option Bool :=
  bno (F163 a0 a1) fun y1 =>
  some (decide ((0 : Int) ≤ y1))
theorem s153 (F163 : (List Int) → Int → (Option Int)) (a0 : (List Int)) (a1 : Int) : tf153.run [⟨163, [(.sl .int), .int], .int, fun x => F163 x.1 x.2, false, []⟩] [(.sl .int), .int] .bool (a0, a1) = S153 F163 a0 a1 := by kernel_rfl
noncomputable def P153 (a0 : (List Int)) (a1 : Int) : Option Bool := S153 P163 a0 a1
noncomputable def k153 : CSpec := ⟨153, [(.sl .int), .int], .bool, fun x => P153 x.1 x.2, false, []⟩
theorem r153 {S : Seat} (h : Ok1 S 153 tf153) (h163 : Rt S k163) : Rt S k153 := fun x y hy =>
  Ok1.sound h (C := [k163]) (CSound.cons h163 CSound.nil) rfl rfl rfl ((s153 P163 x.1 x.2).trans hy) rfl

/- tallyhall/tallyref1.ReadPlace -/
def tc143 : TCode :=
  .seq (.region [
  ⟨some 2, .box (.t 0), none, []⟩,
  ⟨some 4, .mov (.c (.slice none 0 0)), none, []⟩,
  ⟨some 5, .mov (.c (.int .i64 0)), none, []⟩] [] false)
  (.seq (.region [
  ⟨some 10, .mov (.t 1), none, []⟩,
  ⟨some 11, .call true [] 158 [(.t 10), (.c (.int .u8 46))], none, []⟩,
  ⟨some 6, .mov (.t 11), none, []⟩] [] false)
  (.seq (.seq (.region [
  ⟨some 12, .mov (.t 6), none, []⟩,
  ⟨some 13, .len false (.t 12), none, []⟩,
  ⟨some 14, .fa 0 (.t 2), none, []⟩,
  ⟨some 15, .load none (.t 14), none, []⟩,
  ⟨some 16, .len false (.t 15), none, []⟩,
  ⟨some 17, .bin .int .neq (.t 13) (.t 16), none, []⟩] [] false)
  (.cond (.t 17)
    (.seq (.region [
  ⟨some 4, .mov (.c (.slice none 0 0)), none, []⟩,
  ⟨some 5, .mov (.c (.int .i64 2)), none, []⟩] [] false)
    (.ret))
    (.skip)))
  (.seq (.region [
  ⟨some 7, .mov (.c (.slice none 0 0)), none, []⟩] [] false)
  (.seq (.seq (.region [
  ⟨some 8, .mov (.c (.int .i64 0)), none, []⟩] [] false)
  (.loop ⟨[.row 7 39 .int, .slot 8 .int], [9, 18, 19, 20, 21, 22, 23, 24, 25, 26, 27, 28, 29, 30, 31, 32, 33, 34, 35, 36, 37, 38, 39], [38], []⟩ 0 (.seq (.seq (.region [
  ⟨some 18, .mov (.t 8), none, []⟩,
  ⟨some 19, .mov (.t 6), none, []⟩,
  ⟨some 20, .len false (.t 19), none, []⟩,
  ⟨some 21, .bin .int .lss (.t 18) (.t 20), none, []⟩] [] false)
    (.cond (.t 21)
      (.skip)
      (.exit 0)))
    (.seq (.block 1 (.seq (.region [
  ⟨some 24, .fa 0 (.t 2), none, []⟩,
  ⟨some 25, .load none (.t 24), none, [0]⟩,
  ⟨some 26, .mov (.t 8), none, []⟩,
  ⟨some 27, .ia 3 (.t 25) (.t 26), none, [1, 2]⟩,
  ⟨some 28, .load (some 3) (.t 27), none, [3]⟩,
  ⟨some 29, .mov (.t 6), none, []⟩,
  ⟨some 30, .mov (.t 8), none, []⟩,
  ⟨some 31, .ia 1 (.t 29) (.t 30), none, [5, 6]⟩,
  ⟨some 32, .load none (.t 31), none, [7]⟩,
  ⟨some 33, .call false [] 96 [(.t 28), (.t 32)], none, [4, 8]⟩,
  ⟨some 9, .mov (.t 33), none, [9, 9, 0, 1, 2, 3, 4, 5, 6, 7, 8, 9]⟩] [] true)
      (.seq (.seq (.region [
  ⟨some 34, .mov (.t 9), none, []⟩,
  ⟨some 35, .bin .int .lss (.t 34) (.c (.int .i64 0)), none, []⟩] [] false)
      (.cond (.t 35)
        (.seq (.region [
  ⟨some 4, .mov (.c (.slice none 0 0)), none, []⟩,
  ⟨some 5, .mov (.c (.int .i64 5)), none, []⟩] [] false)
        (.ret))
        (.skip)))
      (.region [
  ⟨some 36, .mov (.t 7), none, []⟩,
  ⟨some 37, .mov (.t 9), none, []⟩,
  ⟨some 38, .bslice false 1 [.int .i64 0] 1 [(0, (.t 37))], none, []⟩,
  ⟨some 39, .app 1 (.t 36) (.t 38), none, []⟩,
  ⟨some 7, .mov (.t 39), none, []⟩] [] false))))
    (.region [
  ⟨some 22, .mov (.t 8), none, []⟩,
  ⟨some 23, .bin .int .add (.t 22) (.c (.int .i64 1)), none, []⟩,
  ⟨some 8, .mov (.t 23), none, []⟩] [] false)))))
  (.seq (.region [
  ⟨some 40, .mov (.t 7), none, []⟩,
  ⟨some 4, .mov (.t 40), none, []⟩,
  ⟨some 5, .mov (.c (.int .i64 0)), none, []⟩] [] false)
  (.ret))))))
def tf143 : TFunc := { np := 2, nt := 41, res := [.tmp 4, .tmp 5], own := false, body := tc143 }
noncomputable def S143_L1 (F96 : Dim → ByteArray → (Option Int)) (a0 : (List Dim)) (y1 : (List ByteArray)) (x2 : ((List Int) × Int)) : Option (LR ((List Int) × Int) ((List Int) × Int)) :=
  br (decide (x2.2 < ((List.length y1 : Nat) : Int)))
  (bno (lookI a0 x2.2) fun y3 =>
  bno (lookI y1 x2.2) fun y4 =>
  bno (F96 y3 y4) fun y5 =>
  br (decide (y5 < (0 : Int)))
  (finO (some (([] : List Int), (5 : Int))))
  (ck (decide (List.length x2.1 + List.length ([y5] : List Int) ≤ roomA)) <|
  nxO (some (x2.1 ++ ([y5] : List Int), wi (x2.2 + (1 : Int))))))
  (dnO (some (x2.1, x2.2)))
noncomputable def S143 (F158 : ByteArray → Int → (Option (List ByteArray))) (F96 : Dim → ByteArray → (Option Int)) (a0 : (List Dim)) (a1 : ByteArray) : Option ((List Int) × Int) :=
  bno (F158 a1 (46 : Int)) fun y1 =>
  br (decide (¬ ((List.length y1 : Nat) : Int) = ((List.length a0 : Nat) : Int)))
  (some (([] : List Int), (2 : Int)))
  (lp (S143_L1 F96 a0 y1) (([] : List Int), (0 : Int)) fun x6 =>
  some (x6.1, (0 : Int)))
theorem s143 (F158 : ByteArray → Int → (Option (List ByteArray))) (F96 : Dim → ByteArray → (Option Int)) (a0 : (List Dim)) (a1 : ByteArray) : tf143.run [⟨158, [.str, .u8], (.sl .str), fun x => F158 x.1 x.2, false, []⟩,
  ⟨96, [(.st .dim), .str], .int, fun x => F96 x.1 x.2, false, []⟩] [(.st .outl), .str] (.tp [(.sl .int), .int]) (a0, a1) = S143 F158 F96 a0 a1 := by kernel_rfl
noncomputable def P143 (a0 : (List Dim)) (a1 : ByteArray) : Option ((List Int) × Int) := S143 P158 P96 a0 a1
noncomputable def k143 : CSpec := ⟨143, [(.st .outl), .str], (.tp [(.sl .int), .int]), fun x => P143 x.1 x.2, false, []⟩
theorem r143 {S : Seat} (h : Ok1 S 143 tf143) (h158 : Rt S k158) (h96 : Rt S k96) : Rt S k143 := fun x y hy =>
  Ok1.sound h (C := [k158, k96]) (CSound.cons h158 (CSound.cons h96 CSound.nil)) rfl rfl rfl ((s143 P158 P96 x.1 x.2).trans hy) rfl

/- tallyhall/place.Parse -/
def tc131 : TCode :=
  .seq (.region [
  ⟨some 2, .box (.t 0), none, []⟩,
  ⟨some 4, .mov (.c (.slice none 0 0)), none, []⟩,
  ⟨some 5, .mov (.c (.nilIface)), none, []⟩] [] false)
  (.seq (.seq (.region [
  ⟨some 11, .load (some 1) (.t 2), none, []⟩,
  ⟨some 12, .call false [] 51 [(.t 11)], none, []⟩,
  ⟨some 6, .mov (.t 12), none, []⟩] [] false)
  (.seq (.region [
  ⟨some 13, .mov (.t 6), none, []⟩,
  ⟨some 14, .eqn false true (.t 13), none, []⟩] [] false)
  (.cond (.t 14)
    (.seq (.region [
  ⟨some 15, .mov (.t 6), none, []⟩,
  ⟨some 4, .mov (.c (.slice none 0 0)), none, []⟩,
  ⟨some 5, .mov (.t 15), none, []⟩] [] false)
    (.ret))
    (.skip))))
  (.seq (.region [
  ⟨some 16, .mov (.t 1), none, []⟩,
  ⟨some 17, .call true [] 152 [(.t 16), (.c (.string ⟨#[46]⟩))], none, []⟩,
  ⟨some 7, .mov (.t 17), none, []⟩] [] false)
  (.seq (.seq (.region [
  ⟨some 18, .mov (.t 7), none, []⟩,
  ⟨some 19, .len false (.t 18), none, []⟩,
  ⟨some 20, .fa 0 (.t 2), none, []⟩,
  ⟨some 21, .load none (.t 20), none, []⟩,
  ⟨some 22, .len false (.t 21), none, []⟩,
  ⟨some 23, .bin .int .neq (.t 19) (.t 22), none, []⟩] [] false)
  (.cond (.t 23)
    (.seq (.region [
  ⟨some 24, .ifc 1 (.c (.int .i64 2)), none, []⟩,
  ⟨some 4, .mov (.c (.slice none 0 0)), none, []⟩,
  ⟨some 5, .mov (.t 24), none, []⟩] [] false)
    (.ret))
    (.skip)))
  (.seq (.region [
  ⟨some 8, .mov (.c (.slice none 0 0)), none, []⟩] [] false)
  (.seq (.seq (.region [
  ⟨some 25, .mov (.t 7), none, []⟩,
  ⟨some 26, .len false (.t 25), none, []⟩,
  ⟨some 27, .mov (.c (.int .i64 0)), none, []⟩] [] false)
  (.loop ⟨[.row 8 42 .int, .slot 27 .int], [9, 10, 28, 29, 30, 31, 32, 33, 34, 35, 36, 37, 38, 39, 40, 41, 42, 43], [41], []⟩ 0 (.seq (.region [
  ⟨some 28, .bin .int .lss (.t 27) (.t 26), none, []⟩] [] false)
    (.seq (.cond (.t 28)
      (.skip)
      (.exit 0))
    (.seq (.block 1 (.seq (.region [
  ⟨some 29, .mov (.t 27), none, []⟩,
  ⟨some 30, .ia 1 (.t 25) (.t 27), none, []⟩,
  ⟨some 31, .load none (.t 30), none, []⟩,
  ⟨some 9, .mov (.t 29), none, []⟩,
  ⟨some 10, .mov (.t 31), none, []⟩] [] false)
      (.region [
  ⟨some 32, .mov (.t 8), none, []⟩,
  ⟨some 33, .fa 0 (.t 2), none, []⟩,
  ⟨some 34, .load none (.t 33), none, []⟩,
  ⟨some 35, .mov (.t 9), none, []⟩,
  ⟨some 36, .ia 3 (.t 34) (.t 35), none, []⟩,
  ⟨some 37, .fa 2 (.t 36), none, []⟩,
  ⟨some 38, .load none (.t 37), none, []⟩,
  ⟨some 39, .mov (.t 10), none, []⟩,
  ⟨some 40, .call false [] 37 [(.t 38), (.t 39)], none, []⟩,
  ⟨some 41, .bslice false 1 [.int .i64 0] 1 [(0, (.t 40))], none, []⟩,
  ⟨some 42, .app 1 (.t 32) (.t 41), none, []⟩,
  ⟨some 8, .mov (.t 42), none, []⟩] [] false)))
    (.region [
  ⟨some 43, .bin .int .add (.t 27) (.c (.int .i64 1)), none, []⟩,
  ⟨some 27, .mov (.t 43), none, []⟩] [] false))))))
  (.seq (.seq (.region [
  ⟨some 44, .mov (.t 8), none, []⟩,
  ⟨some 45, .call false [] 153 [(.t 44), (.c (.int .i64 (-1)))], none, []⟩] [] false)
  (.cond (.t 45)
    (.seq (.region [
  ⟨some 46, .ifc 1 (.c (.int .i64 5)), none, []⟩,
  ⟨some 4, .mov (.c (.slice none 0 0)), none, []⟩,
  ⟨some 5, .mov (.t 46), none, []⟩] [] false)
    (.ret))
    (.skip)))
  (.seq (.region [
  ⟨some 47, .mov (.t 8), none, []⟩,
  ⟨some 4, .mov (.t 47), none, []⟩,
  ⟨some 5, .mov (.c (.nilIface)), none, []⟩] [] false)
  (.ret))))))))
def tf131 : TFunc := { np := 2, nt := 48, res := [.tmp 4, .tmp 5], own := false, body := tc131 }
noncomputable def S131_L1 (F37 : (List Member) → ByteArray → (Option Int)) (a0 : (List Dim)) (y2 : (List ByteArray)) (x3 : ((List Int) × Int)) : Option (LR ((List Int) × Int) ((List Int) × Err)) :=
  br (decide (x3.2 < ((List.length y2 : Nat) : Int)))
  (bno (lookI y2 x3.2) fun y4 =>
  bno (lookI a0 x3.2) fun y5 =>
  bno (F37 (Dim.members y5) y4) fun y6 =>
  ck (decide (List.length x3.1 + List.length ([y6] : List Int) ≤ roomA)) <|
  nxO (some (x3.1 ++ ([y6] : List Int), wi (x3.2 + (1 : Int)))))
  (dnO (some (x3.1, x3.2)))
noncomputable def S131 (F152 : ByteArray → ByteArray → (Option (List ByteArray))) (F153 : (List Int) → Int → (Option Bool)) (F37 : (List Member) → ByteArray → (Option Int)) (F51 : (List Dim) → (Option Err)) (a0 : (List Dim)) (a1 : ByteArray) : Option ((List Int) × Err) :=
  bno (F51 a0) fun y1 =>
  br (!(Err.isNil y1))
  (some (([] : List Int), y1))
  (bno (F152 a1 (⟨#[46]⟩ : ByteArray)) fun y2 =>
  br (decide (¬ ((List.length y2 : Nat) : Int) = ((List.length a0 : Nat) : Int)))
  (some (([] : List Int), Err.no (2 : Int)))
  (lp (S131_L1 F37 a0 y2) (([] : List Int), (0 : Int)) fun x7 =>
  bno (F153 x7.1 (-1 : Int)) fun y8 =>
  br y8
  (some (([] : List Int), Err.no (5 : Int)))
  (some (x7.1, Err.nil))))
theorem s131 (F152 : ByteArray → ByteArray → (Option (List ByteArray))) (F153 : (List Int) → Int → (Option Bool)) (F37 : (List Member) → ByteArray → (Option Int)) (F51 : (List Dim) → (Option Err)) (a0 : (List Dim)) (a1 : ByteArray) : tf131.run [⟨152, [.str, .str], (.sl .str), fun x => F152 x.1 x.2, false, []⟩,
  ⟨153, [(.sl .int), .int], .bool, fun x => F153 x.1 x.2, false, []⟩,
  ⟨37, [(.sl .member), .str], .int, fun x => F37 x.1 x.2, false, []⟩,
  ⟨51, [(.st .outl)], .err, fun x => F51 x, false, []⟩] [(.st .outl), .str] (.tp [(.sl .int), .err]) (a0, a1) = S131 F152 F153 F37 F51 a0 a1 := by kernel_rfl
noncomputable def P131 (a0 : (List Dim)) (a1 : ByteArray) : Option ((List Int) × Err) := S131 P152 P153 P37 P51 a0 a1
noncomputable def k131 : CSpec := ⟨131, [(.st .outl), .str], (.tp [(.sl .int), .err]), fun x => P131 x.1 x.2, false, []⟩
theorem r131 {S : Seat} (h : Ok1 S 131 tf131) (h152 : Rt S k152) (h153 : Rt S k153) (h37 : Rt S k37) (h51 : Rt S k51) : Rt S k131 := fun x y hy =>
  Ok1.sound h (C := [k152, k153, k37, k51]) (CSound.cons h152 (CSound.cons h153 (CSound.cons h37 (CSound.cons h51 CSound.nil)))) rfl rfl rfl ((s131 P152 P153 P37 P51 x.1 x.2).trans hy) rfl

/- tallyhall/place.Print -/
def tc133 : TCode :=
  .seq (.region [
  ⟨some 2, .box (.t 0), none, []⟩,
  ⟨some 4, .mov (.c (.string ⟨#[]⟩)), none, []⟩,
  ⟨some 5, .mov (.c (.nilIface)), none, []⟩] [] false)
  (.seq (.seq (.region [
  ⟨some 10, .load (some 1) (.t 2), none, []⟩,
  ⟨some 11, .mov (.t 1), none, []⟩,
  ⟨some 12, .call false [] 114 [(.t 10), (.t 11)], none, []⟩,
  ⟨some 6, .mov (.t 12), none, []⟩] [] false)
  (.seq (.region [
  ⟨some 13, .mov (.t 6), none, []⟩,
  ⟨some 14, .eqn false true (.t 13), none, []⟩] [] false)
  (.cond (.t 14)
    (.seq (.region [
  ⟨some 15, .mov (.t 6), none, []⟩,
  ⟨some 4, .mov (.c (.string ⟨#[]⟩)), none, []⟩,
  ⟨some 5, .mov (.t 15), none, []⟩] [] false)
    (.ret))
    (.skip))))
  (.seq (.region [
  ⟨some 7, .mov (.c (.slice none 0 0)), none, []⟩] [] false)
  (.seq (.seq (.region [
  ⟨some 16, .mov (.t 1), none, []⟩,
  ⟨some 17, .len false (.t 16), none, []⟩,
  ⟨some 18, .mov (.c (.int .i64 0)), none, []⟩] [] false)
  (.loop ⟨[.row 7 35 .str, .slot 18 .int], [8, 9, 19, 20, 21, 22, 23, 24, 25, 26, 27, 28, 29, 30, 31, 32, 33, 34, 35, 36], [34], []⟩ 0 (.seq (.region [
  ⟨some 19, .bin .int .lss (.t 18) (.t 17), none, []⟩] [] false)
    (.seq (.cond (.t 19)
      (.skip)
      (.exit 0))
    (.seq (.block 1 (.seq (.region [
  ⟨some 20, .mov (.t 18), none, []⟩,
  ⟨some 21, .ia 1 (.t 16) (.t 18), none, []⟩,
  ⟨some 22, .load none (.t 21), none, []⟩,
  ⟨some 8, .mov (.t 20), none, []⟩,
  ⟨some 9, .mov (.t 22), none, []⟩] [] false)
      (.region [
  ⟨some 23, .mov (.t 7), none, []⟩,
  ⟨some 24, .fa 0 (.t 2), none, []⟩,
  ⟨some 25, .load none (.t 24), none, []⟩,
  ⟨some 26, .mov (.t 8), none, []⟩,
  ⟨some 27, .ia 3 (.t 25) (.t 26), none, []⟩,
  ⟨some 28, .fa 2 (.t 27), none, []⟩,
  ⟨some 29, .load none (.t 28), none, []⟩,
  ⟨some 30, .mov (.t 9), none, []⟩,
  ⟨some 31, .ia 4 (.t 29) (.t 30), none, []⟩,
  ⟨some 32, .fa 0 (.t 31), none, []⟩,
  ⟨some 33, .load none (.t 32), none, []⟩,
  ⟨some 34, .bslice false 1 [.string ⟨#[]⟩] 1 [(0, (.t 33))], none, []⟩,
  ⟨some 35, .app 1 (.t 23) (.t 34), none, []⟩,
  ⟨some 7, .mov (.t 35), none, []⟩] [.int, .int, .int, .int, .int, .int, .int, .int, .int, .int, .int, .str, .str] false)))
    (.region [
  ⟨some 36, .bin .int .add (.t 18) (.c (.int .i64 1)), none, []⟩,
  ⟨some 18, .mov (.t 36), none, []⟩] [] false))))))
  (.seq (.region [
  ⟨some 37, .mov (.t 7), none, []⟩,
  ⟨some 38, .call false [] 154 [(.t 37), (.c (.string ⟨#[46]⟩))], none, []⟩,
  ⟨some 4, .mov (.t 38), none, []⟩,
  ⟨some 5, .mov (.c (.nilIface)), none, []⟩] [] false)
  (.ret)))))
def tf133 : TFunc := { np := 2, nt := 39, res := [.tmp 4, .tmp 5], own := false, body := tc133 }
noncomputable def S133_L1 (a0 : (List Dim)) (a1 : (List Int)) (x2 : ((List ByteArray) × Int)) : Option (LR ((List ByteArray) × Int) (ByteArray × Err)) :=
  br (decide (x2.2 < ((List.length a1 : Nat) : Int)))
  (bno (lookI a1 x2.2) fun y3 =>
  bno (lookI a0 x2.2) fun y4 =>
  bno (lookI (Dim.members y4) y3) fun y5 =>
  ck (decide (List.length x2.1 + List.length ([Member.name y5] : List ByteArray) ≤ roomA)) <|
  nxO (some (x2.1 ++ ([Member.name y5] : List ByteArray), wi (x2.2 + (1 : Int)))))
  (dnO (some (x2.1, x2.2)))
noncomputable def S133 (F114 : (List Dim) → (List Int) → (Option Err)) (F154 : (List ByteArray) → ByteArray → (Option ByteArray)) (a0 : (List Dim)) (a1 : (List Int)) : Option (ByteArray × Err) :=
  bno (F114 a0 a1) fun y1 =>
  br (!(Err.isNil y1))
  (some ((⟨#[]⟩ : ByteArray), y1))
  (lp (S133_L1 a0 a1) (([] : List ByteArray), (0 : Int)) fun x6 =>
  bno (F154 x6.1 (⟨#[46]⟩ : ByteArray)) fun y7 =>
  some (y7, Err.nil))
theorem s133 (F114 : (List Dim) → (List Int) → (Option Err)) (F154 : (List ByteArray) → ByteArray → (Option ByteArray)) (a0 : (List Dim)) (a1 : (List Int)) : tf133.run [⟨114, [(.st .outl), (.sl .int)], .err, fun x => F114 x.1 x.2, false, []⟩,
  ⟨154, [(.sl .str), .str], .str, fun x => F154 x.1 x.2, false, []⟩] [(.st .outl), (.sl .int)] (.tp [.str, .err]) (a0, a1) = S133 F114 F154 a0 a1 := by kernel_rfl
noncomputable def P133 (a0 : (List Dim)) (a1 : (List Int)) : Option (ByteArray × Err) := S133 P114 P154 a0 a1
noncomputable def k133 : CSpec := ⟨133, [(.st .outl), (.sl .int)], (.tp [.str, .err]), fun x => P133 x.1 x.2, false, []⟩
theorem r133 {S : Seat} (h : Ok1 S 133 tf133) (h114 : Rt S k114) (h154 : Rt S k154) : Rt S k133 := fun x y hy =>
  Ok1.sound h (C := [k114, k154]) (CSound.cons h114 (CSound.cons h154 CSound.nil)) rfl rfl rfl ((s133 P114 P154 x.1 x.2).trans hy) rfl

end Ab
