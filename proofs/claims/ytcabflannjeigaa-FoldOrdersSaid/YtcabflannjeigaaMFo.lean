/-
  Functions of the program as typed code, what they come to, and their contracts: written by program (mk.py).
-/
import Derived.Test.YtcabflannjeigaaB2
import Derived.KernelRfl
import Derived.Test.YtcabflannjeigaaMC
import Derived.Test.YtcabflannjeigaaMCl
import Derived.Test.YtcabflannjeigaaMI
import Derived.Test.YtcabflannjeigaaMO
import Derived.Test.YtcabflannjeigaaC2
import Derived.Test.YtcabflannjeigaaMT
namespace Ab
open Go
set_option linter.unusedVariables false
set_option maxRecDepth 100000

/- tallyhall/place.With -/
def tc70 : TCode :=
  .seq (.region [
  ⟨some 6, .mov (.c (.slice none 0 0)), none, []⟩] [] false)
  (.seq (.region [
  ⟨some 7, .mov (.t 0), none, []⟩,
  ⟨some 8, .call true [] 76 [(.t 7)], none, []⟩,
  ⟨some 0, .mov (.t 8), none, []⟩] [] false)
  (.seq (.region [
  ⟨some 9, .mov (.t 0), none, []⟩,
  ⟨some 10, .mov (.t 1), none, []⟩,
  ⟨some 11, .mov (.t 2), none, []⟩,
  ⟨some 12, .ia 1 (.t 9) (.t 10), none, []⟩,
  ⟨none, .store 1 (.t 12) (.t 11), none, []⟩] [] false)
  (.seq (.region [
  ⟨some 13, .mov (.t 0), none, []⟩,
  ⟨some 6, .mov (.t 13), none, []⟩] [] false)
  (.ret))))
def tf70 : TFunc := { np := 3, nt := 14, res := [.tmp 6], own := false, body := tc70 }
noncomputable def S70 (F76 : (List Int) → (Option (List Int))) (a0 : (List Int)) (a1 : Int) (a2 : Int) : Option (List Int) :=
  bno (F76 a0) fun y1 =>
  ck (decide (0 ≤ a1 ∧ a1 < ((List.length y1 : Nat) : Int))) <|
  bno ((y1)[(Int.toNat a1)]?) fun y2 =>
  some (List.set y1 (Int.toNat a1) a2)
theorem s70 (F76 : (List Int) → (Option (List Int))) (a0 : (List Int)) (a1 : Int) (a2 : Int) : tf70.run [⟨76, [(.sl .int)], (.own .int), fun x => F76 x, false, []⟩] [(.sl .int), .int, .int] (.sl .int) (a0, a1, a2) = S70 F76 a0 a1 a2 := by kernel_rfl
noncomputable def P70 (a0 : (List Int)) (a1 : Int) (a2 : Int) : Option (List Int) := S70 P76 a0 a1 a2
noncomputable def k70 : CSpec := ⟨70, [(.sl .int), .int, .int], (.sl .int), fun x => P70 x.1 x.2.1 x.2.2, false, []⟩
theorem r70 {S : Seat} (h : Ok1 S 70 tf70) (h76 : Rt S k76) : Rt S k70 := fun x y hy =>
  Ok1.sound h (C := [k76]) (CSound.cons h76 CSound.nil) rfl rfl rfl ((s70 P76 x.1 x.2.1 x.2.2).trans hy) rfl

/- tallyhall/fold.once -/
def tc54 : TCode :=
  .seq (.region [
  ⟨some 3, .box (.t 0), none, []⟩] [] false)
  (.seq (.region [
  ⟨some 15, .fa 0 (.t 3), none, []⟩,
  ⟨some 16, .load none (.t 15), none, []⟩,
  ⟨some 17, .mov (.t 2), none, []⟩,
  ⟨some 18, .ia 3 (.t 16) (.t 17), none, []⟩,
  ⟨some 19, .load (some 3) (.t 18), none, []⟩,
  ⟨some 6, .alloc [.string ⟨#[]⟩, .int .i64 0, .slice none 0 0], none, []⟩,
  ⟨none, .store 3 (.t 6) (.t 19), none, []⟩] [] false)
  (.seq (.region [
  ⟨some 20, .fa 2 (.t 6), none, []⟩,
  ⟨some 21, .load none (.t 20), none, []⟩,
  ⟨some 22, .len false (.t 21), none, []⟩,
  ⟨some 23, .bin .int .sub (.t 22) (.c (.int .i64 1)), none, []⟩,
  ⟨some 7, .mov (.t 23), none, []⟩] [] false)
  (.loop ⟨[.slot 7 .int, .rowH 1001 .cell], [8, 9, 10, 11, 13, 14, 24, 25, 26, 27, 28, 29, 30, 31, 32, 33, 34, 35, 36, 37, 38, 39, 40, 41, 42, 43, 44, 45, 46, 47, 48, 49, 50, 51, 52, 53, 54, 55, 56, 57, 58, 59, 60, 61, 62, 63, 64, 65, 66, 67, 68, 69, 70, 71, 72, 73, 74, 75, 76, 77, 78, 79], [11], []⟩ 0 (.seq (.seq (.region [
  ⟨some 24, .mov (.t 7), none, []⟩,
  ⟨some 25, .bin .int .geq (.t 24) (.c (.int .i64 0)), none, []⟩] [] false)
    (.cond (.t 25)
      (.skip)
      (.exit 0)))
    (.seq (.blockJ ⟨[.rowH 1001 .cell], [8, 9, 10, 11, 13, 14, 28, 29, 30, 31, 32, 33, 34, 35, 36, 37, 38, 39, 40, 41, 42, 43, 44, 45, 46, 47, 48, 49, 50, 51, 52, 53, 54, 55, 56, 57, 58, 59, 60, 61, 62, 63, 64, 65, 66, 67, 68, 69, 70, 71, 72, 73, 74, 75, 76, 77, 78, 79], [11], []⟩ 1 (.seq (.region [
  ⟨some 28, .load (some 3) (.t 6), none, []⟩,
  ⟨some 29, .mov (.t 7), none, []⟩,
  ⟨some 30, .call true [] 47 [(.t 28), (.t 29)], none, []⟩,
  ⟨some 8, .mov (.t 30), none, []⟩] [] false)
      (.seq (.seq (.region [
  ⟨some 31, .mov (.t 8), none, []⟩,
  ⟨some 32, .len false (.t 31), none, []⟩,
  ⟨some 33, .bin .int .eql (.t 32) (.c (.int .i64 0)), none, []⟩] [] false)
      (.cond (.t 33)
        (.exit 1)
        (.skip)))
      (.seq (.region [
  ⟨some 34, .mov (.t 1), none, []⟩,
  ⟨some 35, .len false (.t 34), none, []⟩,
  ⟨some 36, .mov (.c (.int .i64 0)), none, []⟩] [] false)
      (.loop ⟨[.slot 36 .int, .rowH 1001 .cell], [9, 10, 11, 13, 14, 37, 38, 39, 40, 41, 42, 43, 44, 45, 46, 47, 48, 49, 50, 51, 52, 53, 54, 55, 56, 57, 58, 59, 60, 61, 62, 63, 64, 65, 66, 67, 68, 69, 70, 71, 72, 73, 74, 75, 76, 77, 78, 79], [11], []⟩ 2 (.seq (.region [
  ⟨some 37, .bin .int .lss (.t 36) (.t 35), none, []⟩] [] false)
        (.seq (.cond (.t 37)
          (.skip)
          (.exit 2))
        (.seq (.blockJ ⟨[.rowH 1001 .cell], [9, 10, 11, 13, 14, 38, 39, 40, 41, 42, 43, 44, 45, 46, 47, 48, 49, 50, 51, 52, 53, 54, 55, 56, 57, 58, 59, 60, 61, 62, 63, 64, 65, 66, 67, 68, 69, 70, 71, 72, 73, 74, 75, 76, 77, 78], [11], []⟩ 3 (.seq (.region [
  ⟨some 38, .mov (.t 36), none, []⟩,
  ⟨some 9, .mov (.t 38), none, []⟩] [] false)
          (.seq (.region [
  ⟨some 39, .load (some 1) (.t 3), none, []⟩,
  ⟨some 40, .mov (.t 9), none, []⟩,
  ⟨some 41, .call true [] 69 [(.t 39), (.t 40)], none, []⟩,
  ⟨some 10, .mov (.t 41), none, []⟩] [] false)
          (.seq (.seq (.region [
  ⟨some 42, .mov (.t 10), none, []⟩,
  ⟨some 43, .mov (.t 2), none, []⟩,
  ⟨some 44, .ia 1 (.t 42) (.t 43), none, []⟩,
  ⟨some 45, .load none (.t 44), none, []⟩,
  ⟨some 46, .mov (.t 7), none, []⟩,
  ⟨some 47, .bin .int .neq (.t 45) (.t 46), none, []⟩] [] false)
          (.cond (.t 47)
            (.exit 3)
            (.skip)))
          (.seq (.region [
  ⟨some 11, .alloc [.int .i64 0, .int .i64 0], none, []⟩] [] false)
          (.seq (.seq (.region [
  ⟨some 48, .mov (.t 8), none, []⟩,
  ⟨some 49, .len false (.t 48), none, []⟩,
  ⟨some 50, .mov (.c (.int .i64 0)), none, []⟩] [] false)
          (.loop ⟨[.slot 50 .int, .var 11 [.sh .int, .sh .int]], [13, 14, 51, 52, 53, 54, 55, 56, 57, 58, 59, 60, 61, 62, 63, 64, 65, 66, 67, 68, 69, 70, 71, 72, 73, 74], [], []⟩ 4 (.seq (.region [
  ⟨some 51, .bin .int .lss (.t 50) (.t 49), none, []⟩] [] false)
            (.seq (.cond (.t 51)
              (.skip)
              (.exit 4))
            (.seq (.block 5 (.seq (.region [
  ⟨some 52, .ia 1 (.t 48) (.t 50), none, []⟩,
  ⟨some 53, .load none (.t 52), none, []⟩,
  ⟨some 13, .mov (.t 53), none, []⟩] [] false)
              (.seq (.region [
  ⟨some 54, .fa 2 (.t 6), none, []⟩,
  ⟨some 55, .load none (.t 54), none, []⟩,
  ⟨some 56, .mov (.t 13), none, []⟩,
  ⟨some 57, .ia 4 (.t 55) (.t 56), none, []⟩,
  ⟨some 58, .fa 2 (.t 57), none, []⟩,
  ⟨some 59, .load none (.t 58), none, []⟩,
  ⟨some 14, .mov (.t 59), none, []⟩] [] false)
              (.seq (.region [
  ⟨some 60, .mov (.t 14), none, []⟩,
  ⟨some 61, .bin .int .neq (.t 60) (.c (.int .i64 0)), none, []⟩] [] false)
              (.condJ ⟨[.var 11 [.sh .int, .sh .int]], [62, 63, 64, 65, 66, 67, 68, 69, 70, 71, 72, 73], [], []⟩ (.t 61)
                (.region [
  ⟨some 62, .load (some 2) (.t 11), none, []⟩,
  ⟨some 63, .mov (.t 1), none, []⟩,
  ⟨some 64, .load (some 1) (.t 3), none, []⟩,
  ⟨some 65, .mov (.t 10), none, []⟩,
  ⟨some 66, .mov (.t 2), none, []⟩,
  ⟨some 67, .mov (.t 13), none, []⟩,
  ⟨some 68, .call true [] 70 [(.t 65), (.t 66), (.t 67)], none, [3, 4, 5]⟩,
  ⟨some 69, .call false [] 49 [(.t 64), (.t 68)], none, [2, 6, 6]⟩,
  ⟨some 70, .ia 2 (.t 63) (.t 69), none, [1, 7]⟩,
  ⟨some 71, .load (some 2) (.t 70), none, [8]⟩,
  ⟨some 72, .mov (.t 14), none, []⟩,
  ⟨some 73, .call false [] 33 [(.t 62), (.t 71), (.t 72)], none, [0, 9, 10, 7]⟩,
  ⟨none, .store 2 (.t 11) (.t 73), none, [11, 11, 0, 1, 2, 3, 4, 5, 6, 7, 8, 9, 10, 11]⟩] [] true)
                (.skip))))))
            (.region [
  ⟨some 74, .bin .int .add (.t 50) (.c (.int .i64 1)), none, []⟩,
  ⟨some 50, .mov (.t 74), none, []⟩] [] false))))))
          (.region [
  ⟨some 75, .mov (.t 1), none, []⟩,
  ⟨some 76, .mov (.t 9), none, []⟩,
  ⟨some 77, .load (some 2) (.t 11), none, []⟩,
  ⟨some 78, .ia 2 (.t 75) (.t 76), none, []⟩,
  ⟨none, .store 2 (.t 78) (.t 77), none, []⟩] [] false)))))))
        (.region [
  ⟨some 79, .bin .int .add (.t 36) (.c (.int .i64 1)), none, []⟩,
  ⟨some 36, .mov (.t 79), none, []⟩] [] false)))))))))
    (.region [
  ⟨some 26, .mov (.t 7), none, []⟩,
  ⟨some 27, .bin .int .sub (.t 26) (.c (.int .i64 1)), none, []⟩,
  ⟨some 7, .mov (.t 27), none, []⟩] [] false))))))
def tf54 : TFunc := { np := 3, nt := 80, res := [], own := false, body := tc54, muts := [1] }
noncomputable def S54_L1 (F33 : Cell → Cell → Int → (Option Cell)) (F49 : (List Dim) → (List Int) → (Option Int)) (F70 : (List Int) → Int → Int → (Option (List Int))) (a0 : (List Dim)) (a2 : Int) (y1 : Dim) (y3 : (List Int)) (x4 : (Int × (List Cell))) (y5 : (List Int)) (x7 : (Int × (Int × Int))) : Option (LR (Int × (Int × Int)) (Sum (List Cell) (LR (Int × (List Cell)) (Sum (List Cell) (LR (Int × (List Cell)) (List Cell)))))) :=
  br (decide (x7.1 < ((List.length y3 : Nat) : Int)))
  (bno (lookI y3 x7.1) fun y8 =>
  bno (lookI (Dim.members y1) y8) fun y9 =>
  jn (σ := (Int × Int)) (α := (LR (Int × (Int × Int)) (Sum (List Cell) (LR (Int × (List Cell)) (Sum (List Cell) (LR (Int × (List Cell)) (List Cell))))))) (br (decide (¬ (Member.sign y9) = (0 : Int)))
  (bno (F70 y5 a2 y8) fun y10 =>
  bno (F49 a0 y10) fun y11 =>
  ck (decide (0 ≤ y11 ∧ y11 < ((List.length x4.2 : Nat) : Int))) <|
  bno ((x4.2)[(Int.toNat y11)]?) fun y12 =>
  bno (F33 (Cell.mk x7.2.1 x7.2.2) y12 (Member.sign y9)) fun y13 =>
  inlO (some (Cell.k y13, Cell.n y13)))
  (inlO (some (x7.2.1, x7.2.2)))) fun x14 =>
  nxO (some (wi (x7.1 + (1 : Int)), (x14.1, x14.2))))
  (dnO (some (x7.1, (x7.2.1, x7.2.2))))
noncomputable def S54_L2 (F33 : Cell → Cell → Int → (Option Cell)) (F49 : (List Dim) → (List Int) → (Option Int)) (F69 : (List Dim) → Int → (Option (List Int))) (F70 : (List Int) → Int → Int → (Option (List Int))) (a0 : (List Dim)) (a2 : Int) (y1 : Dim) (x2 : (Int × (List Cell))) (y3 : (List Int)) (x4 : (Int × (List Cell))) : Option (LR (Int × (List Cell)) (Sum (List Cell) (LR (Int × (List Cell)) (List Cell)))) :=
  br (decide (x4.1 < ((List.length x2.2 : Nat) : Int)))
  (jn (σ := (List Cell)) (α := (LR (Int × (List Cell)) (Sum (List Cell) (LR (Int × (List Cell)) (List Cell))))) (bno (F69 a0 x4.1) fun y5 =>
  bno (lookI y5 a2) fun y6 =>
  br (decide (¬ y6 = x2.1))
  (inlO (some x4.2))
  (lp (S54_L1 F33 F49 F70 a0 a2 y1 y3 x4 y5) ((0 : Int), ((0 : Int), (0 : Int))) fun x15 =>
  ck (decide (0 ≤ x4.1 ∧ x4.1 < ((List.length x4.2 : Nat) : Int))) <|
  bno ((x4.2)[(Int.toNat x4.1)]?) fun y16 =>
  inlO (some (List.set x4.2 (Int.toNat x4.1) (Cell.mk x15.2.1 x15.2.2))))) fun x17 =>
  nxO (some (wi (x4.1 + (1 : Int)), x17)))
  (dnO (some (x4.1, x4.2)))
noncomputable def S54_L3 (F33 : Cell → Cell → Int → (Option Cell)) (F47 : Dim → Int → (Option (List Int))) (F49 : (List Dim) → (List Int) → (Option Int)) (F69 : (List Dim) → Int → (Option (List Int))) (F70 : (List Int) → Int → Int → (Option (List Int))) (a0 : (List Dim)) (a2 : Int) (y1 : Dim) (x2 : (Int × (List Cell))) : Option (LR (Int × (List Cell)) (List Cell)) :=
  br (decide ((0 : Int) ≤ x2.1))
  (jn (σ := (List Cell)) (α := (LR (Int × (List Cell)) (List Cell))) (bno (F47 y1 x2.1) fun y3 =>
  br (decide (((List.length y3 : Nat) : Int) = (0 : Int)))
  (inlO (some x2.2))
  (lp (S54_L2 F33 F49 F69 F70 a0 a2 y1 x2 y3) ((0 : Int), x2.2) fun x18 =>
  inlO (some x18.2))) fun x19 =>
  nxO (some (wi (x2.1 - (1 : Int)), x19)))
  (dnO (some (x2.1, x2.2)))
noncomputable def S54 (F33 : Cell → Cell → Int → (Option Cell)) (F47 : Dim → Int → (Option (List Int))) (F49 : (List Dim) → (List Int) → (Option Int)) (F69 : (List Dim) → Int → (Option (List Int))) (F70 : (List Int) → Int → Int → (Option (List Int))) (a0 : (List Dim)) (a1 : (List Cell)) (a2 : Int) : Option (List Cell) :=
  bno (lookI a0 a2) fun y1 =>
  lp (S54_L3 F33 F47 F49 F69 F70 a0 a2 y1) (wi (((List.length (Dim.members y1) : Nat) : Int) - (1 : Int)), a1) fun x20 =>
  some x20.2
theorem s54 (F33 : Cell → Cell → Int → (Option Cell)) (F47 : Dim → Int → (Option (List Int))) (F49 : (List Dim) → (List Int) → (Option Int)) (F69 : (List Dim) → Int → (Option (List Int))) (F70 : (List Int) → Int → Int → (Option (List Int))) (a0 : (List Dim)) (a1 : (List Cell)) (a2 : Int) : tf54.runM [⟨33, [(.st .cell), (.st .cell), .int], (.st .cell), fun x => F33 x.1 x.2.1 x.2.2, false, []⟩,
  ⟨47, [(.st .dim), .int], (.sl .int), fun x => F47 x.1 x.2, false, []⟩,
  ⟨49, [(.st .outl), (.sl .int)], .int, fun x => F49 x.1 x.2, false, []⟩,
  ⟨69, [(.st .outl), .int], (.sl .int), fun x => F69 x.1 x.2, false, []⟩,
  ⟨70, [(.sl .int), .int, .int], (.sl .int), fun x => F70 x.1 x.2.1 x.2.2, false, []⟩] [(.st .outl), (.own .cell), .int] (.own .cell) (a0, a1, a2) = S54 F33 F47 F49 F69 F70 a0 a1 a2 := by kernel_rfl
noncomputable def P54 (a0 : (List Dim)) (a1 : (List Cell)) (a2 : Int) : Option (List Cell) := S54 P33 P47 P49 P69 P70 a0 a1 a2
noncomputable def k54 : CSpec := ⟨54, [(.st .outl), (.own .cell), .int], (.own .cell), fun x => P54 x.1 x.2.1 x.2.2, false, [1]⟩
theorem r54 {S : Seat} (h : Ok1 S 54 tf54) (h33 : Rt S k33) (h47 : Rt S k47) (h49 : Rt S k49) (h69 : Rt S k69) (h70 : Rt S k70) : Rt S k54 := fun x y hy =>
  Ok1.soundM h (C := [k33, k47, k49, k69, k70]) (CSound.cons h33 (CSound.cons h47 (CSound.cons h49 (CSound.cons h69 (CSound.cons h70 CSound.nil))))) rfl rfl rfl rfl rfl rfl ((s54 P33 P47 P49 P69 P70 x.1 x.2.1 x.2.2).trans hy)

/- tallyhall/fold.Cells -/
def tc21 : TCode :=
  .seq (.region [
  ⟨some 2, .box (.t 0), none, []⟩,
  ⟨some 4, .mov (.c (.slice none 0 0)), none, []⟩,
  ⟨some 5, .mov (.c (.nilIface)), none, []⟩] [] false)
  (.seq (.seq (.region [
  ⟨some 10, .load (some 1) (.t 2), none, []⟩,
  ⟨some 11, .mov (.t 1), none, []⟩,
  ⟨some 12, .call false [] 27 [(.t 10), (.t 11)], none, []⟩,
  ⟨some 6, .mov (.t 12), none, []⟩] [] false)
  (.seq (.region [
  ⟨some 13, .mov (.t 6), none, []⟩,
  ⟨some 14, .eqn false true (.t 13), none, []⟩] [] false)
  (.cond (.t 14)
    (.seq (.region [
  ⟨some 15, .mov (.t 6), none, []⟩,
  ⟨some 4, .mov (.c (.slice none 0 0)), none, []⟩,
  ⟨some 5, .mov (.t 15), none, []⟩] [] false)
    (.ret))
    (.skip))))
  (.seq (.region [
  ⟨some 16, .load (some 1) (.t 2), none, []⟩,
  ⟨some 17, .call false [] 40 [(.t 16)], none, []⟩,
  ⟨some 18, .mksl 2 [.int .i64 0, .int .i64 0] (.t 17) (.t 17), none, []⟩,
  ⟨some 7, .mov (.t 18), none, []⟩] [.int, .int, .cell] false)
  (.seq (.seq (.region [
  ⟨some 19, .mov (.t 1), none, []⟩,
  ⟨some 20, .len false (.t 19), none, []⟩,
  ⟨some 21, .mov (.c (.int .i64 0)), none, []⟩] [] false)
  (.loop ⟨[.slot 21 .int, .rowH 18 .cell], [9, 22, 23, 24, 25, 26, 27, 28, 29, 30, 31, 32, 33, 34], [9], []⟩ 0 (.seq (.region [
  ⟨some 22, .bin .int .lss (.t 21) (.t 20), none, []⟩] [] false)
    (.seq (.cond (.t 22)
      (.skip)
      (.exit 0))
    (.seq (.block 1 (.seq (.region [
  ⟨some 23, .ia 2 (.t 19) (.t 21), none, []⟩,
  ⟨some 24, .load (some 2) (.t 23), none, []⟩,
  ⟨some 9, .alloc [.slice none 0 0, .int .i64 0], none, []⟩,
  ⟨none, .store 2 (.t 9) (.t 24), none, []⟩] [] false)
      (.region [
  ⟨some 25, .mov (.t 7), none, []⟩,
  ⟨some 26, .load (some 1) (.t 2), none, []⟩,
  ⟨some 27, .fa 0 (.t 9), none, []⟩,
  ⟨some 28, .load none (.t 27), none, [2]⟩,
  ⟨some 29, .call false [] 49 [(.t 26), (.t 28)], none, [1, 3]⟩,
  ⟨some 30, .fa 1 (.t 9), none, []⟩,
  ⟨some 31, .load none (.t 30), none, [5]⟩,
  ⟨some 32, .call false [] 8 [(.t 31)], none, [6, 4]⟩,
  ⟨some 33, .ia 2 (.t 25) (.t 29), none, [0, 4, 0, 1, 2, 3, 4, 5, 6, 7]⟩,
  ⟨none, .store 2 (.t 33) (.t 32), none, [8, 7, 7, 0, 1, 2, 3, 4, 5, 6, 7]⟩] [] true)))
    (.region [
  ⟨some 34, .bin .int .add (.t 21) (.c (.int .i64 1)), none, []⟩,
  ⟨some 21, .mov (.t 34), none, []⟩] [] false))))))
  (.seq (.region [
  ⟨some 35, .mov (.t 7), none, []⟩,
  ⟨some 4, .mov (.t 35), none, []⟩,
  ⟨some 5, .mov (.c (.nilIface)), none, []⟩] [] false)
  (.ret)))))
def tf21 : TFunc := { np := 2, nt := 36, res := [.tmp 4, .tmp 5], own := true, body := tc21 }
noncomputable def S21_L1 (F49 : (List Dim) → (List Int) → (Option Int)) (F8 : Int → (Option Cell)) (a0 : (List Dim)) (a1 : (List Entry)) (x3 : (Int × (List Cell))) : Option (LR (Int × (List Cell)) ((List Cell) × Err)) :=
  br (decide (x3.1 < ((List.length a1 : Nat) : Int)))
  (bno (lookI a1 x3.1) fun y4 =>
  bno (F49 a0 (Entry.at_ y4)) fun y5 =>
  bno (F8 (Entry.n y4)) fun y6 =>
  ck (decide (0 ≤ y5 ∧ y5 < ((List.length x3.2 : Nat) : Int))) <|
  bno ((x3.2)[(Int.toNat y5)]?) fun y7 =>
  nxO (some (wi (x3.1 + (1 : Int)), List.set x3.2 (Int.toNat y5) y6)))
  (dnO (some (x3.1, x3.2)))
noncomputable def S21 (F27 : (List Dim) → (List Entry) → (Option Err)) (F40 : (List Dim) → (Option Int)) (F49 : (List Dim) → (List Int) → (Option Int)) (F8 : Int → (Option Cell)) (a0 : (List Dim)) (a1 : (List Entry)) : Option ((List Cell) × Err) :=
  bno (F27 a0 a1) fun y1 =>
  br (!(Err.isNil y1))
  (some (([] : List Cell), y1))
  (bno (F40 a0) fun y2 =>
  ck (decide (0 ≤ y2 ∧ y2 ≤ y2 ∧ y2 ≤ roomA)) <|
  lp (S21_L1 F49 F8 a0 a1) ((0 : Int), List.replicate (Int.toNat y2) (Cell.mk (0 : Int) (0 : Int))) fun x8 =>
  some (x8.2, Err.nil))
theorem s21 (F27 : (List Dim) → (List Entry) → (Option Err)) (F40 : (List Dim) → (Option Int)) (F49 : (List Dim) → (List Int) → (Option Int)) (F8 : Int → (Option Cell)) (a0 : (List Dim)) (a1 : (List Entry)) : tf21.run [⟨27, [(.st .outl), (.sl .entry)], .err, fun x => F27 x.1 x.2, false, []⟩,
  ⟨40, [(.st .outl)], .int, fun x => F40 x, false, []⟩,
  ⟨49, [(.st .outl), (.sl .int)], .int, fun x => F49 x.1 x.2, false, []⟩,
  ⟨8, [.int], (.st .cell), fun x => F8 x, false, []⟩] [(.st .outl), (.sl .entry)] (.tp [(.own .cell), .err]) (a0, a1) = S21 F27 F40 F49 F8 a0 a1 := by kernel_rfl
noncomputable def P21 (a0 : (List Dim)) (a1 : (List Entry)) : Option ((List Cell) × Err) := S21 P27 P40 P49 P8 a0 a1
noncomputable def k21 : CSpec := ⟨21, [(.st .outl), (.sl .entry)], (.tp [(.own .cell), .err]), fun x => P21 x.1 x.2, false, []⟩
theorem r21 {S : Seat} (h : Ok1 S 21 tf21) (h27 : Rt S k27) (h40 : Rt S k40) (h49 : Rt S k49) (h8 : Rt S k8) : Rt S k21 := fun x y hy =>
  Ok1.sound h (C := [k27, k40, k49, k8]) (CSound.cons h27 (CSound.cons h40 (CSound.cons h49 (CSound.cons h8 CSound.nil)))) rfl rfl rfl ((s21 P27 P40 P49 P8 x.1 x.2).trans hy) rfl

/- tallyhall/fold.Once -/
end Ab
