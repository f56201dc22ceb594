/-
  Functions of the program as typed code, what they come to, and their contracts: written by program (mk.py).
-/
import Derived.Test.YthjpciiacibnhaaB2
import Derived.KernelRfl
import Derived.Test.YthjpciiacibnhaaMCl
import Derived.Test.YthjpciiacibnhaaMI
import Derived.Test.YthjpciiacibnhaaMP
import Derived.Test.YthjpciiacibnhaaMSl
namespace Ab
open Go
set_option linter.unusedVariables false
set_option maxRecDepth 100000

/- tallyhall/input.Own -/
def tc72 : TCode :=
  .seq (.region [
  ⟨some 2, .mov (.c (.slice none 0 0)), none, []⟩] [] false)
  (.seq (.region [
  ⟨some 5, .mov (.t 0), none, []⟩,
  ⟨some 6, .call true [] 79 [(.t 5)], none, []⟩,
  ⟨some 0, .mov (.t 6), none, []⟩] [] false)
  (.seq (.seq (.region [
  ⟨some 7, .mov (.t 0), none, []⟩,
  ⟨some 8, .len false (.t 7), none, []⟩,
  ⟨some 9, .mov (.c (.int .i64 0)), none, []⟩] [] false)
  (.loop ⟨[.slot 9 .int, .rowH 6 .entry], [3, 4, 10, 11, 12, 13, 14, 15, 16, 17, 18, 19, 20, 21], [4], []⟩ 0 (.seq (.region [
  ⟨some 10, .bin .int .lss (.t 9) (.t 8), none, []⟩] [] false)
    (.seq (.cond (.t 10)
      (.skip)
      (.exit 0))
    (.seq (.block 1 (.seq (.region [
  ⟨some 11, .mov (.t 9), none, []⟩,
  ⟨some 12, .ia 2 (.t 7) (.t 9), none, []⟩,
  ⟨some 13, .load (some 2) (.t 12), none, []⟩,
  ⟨some 4, .alloc [.slice none 0 0, .int .i64 0], none, []⟩,
  ⟨some 3, .mov (.t 11), none, []⟩,
  ⟨none, .store 2 (.t 4) (.t 13), none, []⟩] [] false)
      (.region [
  ⟨some 14, .mov (.t 0), none, []⟩,
  ⟨some 15, .mov (.t 3), none, []⟩,
  ⟨some 16, .fa 0 (.t 4), none, []⟩,
  ⟨some 17, .load none (.t 16), none, []⟩,
  ⟨some 18, .call true [] 76 [(.t 17)], none, []⟩,
  ⟨some 19, .ia 2 (.t 14) (.t 15), none, []⟩,
  ⟨some 20, .fa 0 (.t 19), none, []⟩,
  ⟨none, .store 1 (.t 20) (.t 18), none, []⟩] [] false)))
    (.region [
  ⟨some 21, .bin .int .add (.t 9) (.c (.int .i64 1)), none, []⟩,
  ⟨some 9, .mov (.t 21), none, []⟩] [] false))))))
  (.seq (.region [
  ⟨some 22, .mov (.t 0), none, []⟩,
  ⟨some 2, .mov (.t 22), none, []⟩] [] false)
  (.ret))))
def tf72 : TFunc := { np := 1, nt := 23, res := [.tmp 2], own := true, body := tc72 }
noncomputable def S72_L1 (F76s : (List Int) → (Option (List Int))) (y1 : (List Entry)) (x2 : (Int × (List Entry))) : Option (LR (Int × (List Entry)) (List Entry)) :=
  br (decide (x2.1 < ((List.length y1 : Nat) : Int)))
  (ck (decide (0 ≤ x2.1 ∧ x2.1 < ((List.length x2.2 : Nat) : Int))) <|
  bno ((x2.2)[(Int.toNat x2.1)]?) fun y3 =>
  bno (F76s (Entry.at_ y3)) fun y4 =>
  ck (decide (0 ≤ x2.1 ∧ x2.1 < ((List.length x2.2 : Nat) : Int))) <|
  bno ((x2.2)[(Int.toNat x2.1)]?) fun y5 =>
  nxO (some (wi (x2.1 + (1 : Int)), List.set x2.2 (Int.toNat x2.1) (Entry.mk y4 (Entry.n y5)))))
  (dnO (some (x2.1, x2.2)))
noncomputable def S72 (F76s : (List Int) → (Option (List Int))) (F79 : (List Entry) → (Option (List Entry))) (a0 : (List Entry)) : Option (List Entry) :=
  bno (F79 a0) fun y1 =>
  lp (S72_L1 F76s y1) ((0 : Int), y1) fun x6 =>
  some x6.2
theorem s72 (F76s : (List Int) → (Option (List Int))) (F79 : (List Entry) → (Option (List Entry))) (a0 : (List Entry)) : tf72.run [⟨76, [(.sl .int)], (.sl .int), fun x => F76s x, false, []⟩,
  ⟨79, [(.sl .entry)], (.own .entry), fun x => F79 x, false, []⟩] [(.sl .entry)] (.own .entry) a0 = S72 F76s F79 a0 := by kernel_rfl
noncomputable def P72 (a0 : (List Entry)) : Option (List Entry) := S72 P76s P79 a0
noncomputable def k72 : CSpec := ⟨72, [(.sl .entry)], (.own .entry), fun x => P72 x, false, []⟩
theorem r72 {S : Seat} (h : Ok1 S 72 tf72) (h76s : Rt S k76s) (h79 : Rt S k79) : Rt S k72 := fun x y hy =>
  Ok1.sound h (C := [k76s, k79]) (CSound.cons h76s (CSound.cons h79 CSound.nil)) rfl rfl rfl ((s72 P76s P79 x).trans hy) rfl

/- tallyhall/input.do -/
def tc71 : TCode :=
  .seq (.region [
  ⟨some 3, .box (.t 0), none, []⟩,
  ⟨some 5, .box (.t 2), none, []⟩,
  ⟨some 6, .mov (.c (.slice none 0 0)), none, []⟩,
  ⟨some 7, .mov (.c (.nilIface)), none, []⟩] [] false)
  (.seq (.seq (.region [
  ⟨some 11, .load (some 1) (.t 3), none, []⟩,
  ⟨some 12, .fa 0 (.t 5), none, []⟩,
  ⟨some 13, .load none (.t 12), none, []⟩,
  ⟨some 14, .call false [] 58 [(.t 11), (.t 13)], none, []⟩,
  ⟨some 8, .mov (.t 14), none, []⟩] [] false)
  (.seq (.region [
  ⟨some 15, .mov (.t 8), none, []⟩,
  ⟨some 16, .eqn false true (.t 15), none, []⟩] [] false)
  (.cond (.t 16)
    (.seq (.region [
  ⟨some 17, .mov (.t 8), none, []⟩,
  ⟨some 6, .mov (.c (.slice none 0 0)), none, []⟩,
  ⟨some 7, .mov (.t 17), none, []⟩] [] false)
    (.ret))
    (.skip))))
  (.seq (.region [
  ⟨some 19, .mov (.t 1), none, []⟩,
  ⟨some 20, .fa 0 (.t 5), none, []⟩,
  ⟨some 21, .load none (.t 20), none, []⟩,
  ⟨some 22, .call false [] 73 [(.t 19), (.t 21)], none, []⟩,
  ⟨some 18, .mov (.t 22), none, []⟩,
  ⟨some 23, .ext (.t 18) 0, none, []⟩,
  ⟨some 24, .ext (.t 18) 1, none, []⟩,
  ⟨some 9, .mov (.t 23), none, []⟩,
  ⟨some 10, .mov (.t 24), none, []⟩] [] false)
  (.seq (.block 0 (.seq (.regionJ ⟨[.slot 25 .bool], [26, 27, 28, 29, 30, 31], [], []⟩ [
  ⟨some 26, .fa 2 (.t 5), none, []⟩,
  ⟨some 27, .load none (.t 26), none, []⟩,
  ⟨some 28, .mov (.t 27), none, []⟩,
  ⟨some 29, .mov (.t 10), (some (28, true)), []⟩,
  ⟨some 30, .un .not (.t 29), (some (28, true)), []⟩,
  ⟨some 31, .pick (.t 28) (.t 30) (.c (.bool false)), none, []⟩,
  ⟨some 25, .mov (.t 31), none, []⟩] [] false)
    (.cond (.t 25)
      (.seq (.region [
  ⟨some 32, .ifc 1 (.c (.int .i64 5)), none, []⟩,
  ⟨some 6, .mov (.c (.slice none 0 0)), none, []⟩,
  ⟨some 7, .mov (.t 32), none, []⟩] [] false)
      (.ret))
      (.seq (.region [
  ⟨some 34, .fa 2 (.t 5), none, []⟩,
  ⟨some 35, .load none (.t 34), none, []⟩,
  ⟨some 33, .mov (.t 35), none, []⟩] [] false)
      (.cond (.t 33)
        (.seq (.region [
  ⟨some 36, .mov (.t 1), none, []⟩,
  ⟨some 37, .mov (.t 9), none, []⟩,
  ⟨some 38, .mov (.t 9), none, []⟩,
  ⟨some 39, .bin .int .add (.t 38) (.c (.int .i64 1)), none, []⟩,
  ⟨some 40, .call true [1000] 77 [(.t 36), (.t 37), (.t 39)], none, []⟩,
  ⟨some 6, .mov (.t 40), none, []⟩,
  ⟨some 7, .mov (.c (.nilIface)), none, []⟩] [] false)
        (.ret))
        (.seq (.region [
  ⟨some 42, .load (some 1) (.t 3), none, []⟩,
  ⟨some 43, .fa 0 (.t 5), none, []⟩,
  ⟨some 44, .load none (.t 43), none, []⟩,
  ⟨some 45, .call false [] 59 [(.t 42), (.t 44)], none, []⟩,
  ⟨some 46, .un .not (.t 45), none, []⟩,
  ⟨some 41, .mov (.t 46), none, []⟩] [] false)
        (.cond (.t 41)
          (.seq (.region [
  ⟨some 47, .ifc 1 (.c (.int .i64 6)), none, []⟩,
  ⟨some 6, .mov (.c (.slice none 0 0)), none, []⟩,
  ⟨some 7, .mov (.t 47), none, []⟩] [] false)
          (.ret))
          (.seq (.region [
  ⟨some 49, .fa 1 (.t 5), none, []⟩,
  ⟨some 50, .load none (.t 49), none, []⟩,
  ⟨some 51, .call false [] 60 [(.t 50)], none, []⟩,
  ⟨some 52, .un .not (.t 51), none, []⟩,
  ⟨some 48, .mov (.t 52), none, []⟩] [] false)
          (.cond (.t 48)
            (.seq (.region [
  ⟨some 53, .ifc 1 (.c (.int .i64 1)), none, []⟩,
  ⟨some 6, .mov (.c (.slice none 0 0)), none, []⟩,
  ⟨some 7, .mov (.t 53), none, []⟩] [] false)
            (.ret))
            (.seq (.region [
  ⟨some 55, .mov (.t 10), none, []⟩,
  ⟨some 54, .mov (.t 55), none, []⟩] [] false)
            (.cond (.t 54)
              (.seq (.region [
  ⟨some 56, .mov (.t 1), none, []⟩,
  ⟨some 57, .mov (.t 9), none, []⟩,
  ⟨some 58, .fa 1 (.t 5), none, []⟩,
  ⟨some 59, .load none (.t 58), none, []⟩,
  ⟨some 60, .ia 2 (.t 56) (.t 57), none, []⟩,
  ⟨some 61, .fa 1 (.t 60), none, []⟩,
  ⟨none, .store 1 (.t 61) (.t 59), none, []⟩] [] false)
              (.seq (.region [
  ⟨some 62, .mov (.t 1), none, []⟩,
  ⟨some 6, .mov (.t 62), none, []⟩,
  ⟨some 7, .mov (.c (.nilIface)), none, []⟩] [] false)
              (.ret)))
              (.skip))))))))))))
  (.seq (.region [
  ⟨some 63, .mov (.t 1), none, []⟩,
  ⟨some 64, .mov (.t 9), none, []⟩,
  ⟨some 65, .fa 0 (.t 5), none, []⟩,
  ⟨some 66, .load none (.t 65), none, [2]⟩,
  ⟨some 68, .fa 1 (.t 5), none, []⟩,
  ⟨some 69, .load none (.t 68), none, [5]⟩,
  ⟨some 67, .call true [3000] 76 [(.t 66)], none, [3]⟩,
  ⟨some 70, .build [.slice none 0 0, .int .i64 0] [(0, 1, (.t 67)), (1, 1, (.t 69))], none, [4, 6]⟩,
  ⟨some 71, .bslice false 2 [.slice none 0 0, .int .i64 0] 1 [(0, (.t 70))], none, [7]⟩,
  ⟨some 72, .call true [1000, 1002] 78 [(.t 63), (.t 64), (.t 71)], none, [0, 1, 8, 4]⟩,
  ⟨some 6, .mov (.t 72), none, [9, 9, 0, 1, 2, 3, 4, 5, 6, 7, 8, 9]⟩,
  ⟨some 7, .mov (.c (.nilIface)), none, [10, 0, 1, 2, 3, 4, 5, 6, 7, 8, 9, 10]⟩] [.int, .int, .int, .int, .int, .int, .int, .int, .entry] true)
  (.ret)))))
def tf71 : TFunc := { np := 3, nt := 73, res := [.tmp 6, .tmp 7], own := false, body := tc71, muts := [1001] }
noncomputable def S71 (F58 : (List Dim) → (List Int) → (Option Err)) (F59 : (List Dim) → (List Int) → (Option Bool)) (F60 : Int → (Option Bool)) (F73 : (List Entry) → (List Int) → (Option (Int × Bool))) (F76s : (List Int) → (Option (List Int))) (F77 : (List Entry) → Int → Int → (Option (List Entry))) (F78 : (List Entry) → Int → (List Entry) → (Option (List Entry))) (a0 : (List Dim)) (a1 : (List Entry)) (a2 : Edit) : Option ((List Entry) × Err) :=
  bno (F58 a0 (Edit.at_ a2)) fun y1 =>
  br (!(Err.isNil y1))
  (some (([] : List Entry), y1))
  (bno (F73 a1 (Edit.at_ a2)) fun y2 =>
  jn (σ := Bool) (α := ((List Entry) × Err)) (br (Edit.clear a2)
  (inlO (some (!y2.2)))
  (inlO (some false))) fun x3 =>
  br x3
  (some (([] : List Entry), Err.no (5 : Int)))
  (br (Edit.clear a2)
  (bno (F77 a1 y2.1 (wi (y2.1 + (1 : Int)))) fun y4 =>
  some (y4, Err.nil))
  (bno (F59 a0 (Edit.at_ a2)) fun y5 =>
  br (!y5)
  (some (([] : List Entry), Err.no (6 : Int)))
  (bno (F60 (Edit.n a2)) fun y6 =>
  br (!y6)
  (some (([] : List Entry), Err.no (1 : Int)))
  (br y2.2
  (ck (decide (0 ≤ y2.1 ∧ y2.1 < ((List.length a1 : Nat) : Int))) <|
  bno ((a1)[(Int.toNat y2.1)]?) fun y7 =>
  some (List.set a1 (Int.toNat y2.1) (Entry.mk (Entry.at_ y7) (Edit.n a2)), Err.nil))
  (bno (F76s (Edit.at_ a2)) fun y8 =>
  bno (F78 a1 y2.1 ([Entry.mk y8 (Edit.n a2)] : List Entry)) fun y9 =>
  some (y9, Err.nil)))))))
theorem s71 (F58 : (List Dim) → (List Int) → (Option Err)) (F59 : (List Dim) → (List Int) → (Option Bool)) (F60 : Int → (Option Bool)) (F73 : (List Entry) → (List Int) → (Option (Int × Bool))) (F76s : (List Int) → (Option (List Int))) (F77 : (List Entry) → Int → Int → (Option (List Entry))) (F78 : (List Entry) → Int → (List Entry) → (Option (List Entry))) (a0 : (List Dim)) (a1 : (List Entry)) (a2 : Edit) : tf71.runM [⟨58, [(.st .outl), (.sl .int)], .err, fun x => F58 x.1 x.2, false, []⟩,
  ⟨59, [(.st .outl), (.sl .int)], .bool, fun x => F59 x.1 x.2, false, []⟩,
  ⟨60, [.int], .bool, fun x => F60 x, false, []⟩,
  ⟨73, [(.sl .entry), (.sl .int)], (.tp [.int, .bool]), fun x => F73 x.1 x.2, false, []⟩,
  ⟨76, [(.sl .int)], (.sl .int), fun x => F76s x, false, []⟩,
  ⟨77, [(.own .entry), .int, .int], (.own .entry), fun x => F77 x.1 x.2.1 x.2.2, false, [1000]⟩,
  ⟨78, [(.own .entry), .int, (.own .entry)], (.own .entry), fun x => F78 x.1 x.2.1 x.2.2, false, [1000, 1002]⟩] [(.st .outl), (.own .entry), (.st .edit)] (.tp [(.own .entry), .err]) (a0, a1, a2) = S71 F58 F59 F60 F73 F76s F77 F78 a0 a1 a2 := by kernel_rfl
noncomputable def P71 (a0 : (List Dim)) (a1 : (List Entry)) (a2 : Edit) : Option ((List Entry) × Err) := S71 P58 P59 P60 P73 P76s P77 P78 a0 a1 a2
noncomputable def k71 : CSpec := ⟨71, [(.st .outl), (.own .entry), (.st .edit)], (.tp [(.own .entry), .err]), fun x => P71 x.1 x.2.1 x.2.2, false, [1001]⟩
theorem r71 {S : Seat} (h : Ok1 S 71 tf71) (h58 : Rt S k58) (h59 : Rt S k59) (h60 : Rt S k60) (h73 : Rt S k73) (h76s : Rt S k76s) (h77 : Rt S k77) (h78 : Rt S k78) : Rt S k71 := fun x y hy =>
  Ok1.soundM h (C := [k58, k59, k60, k73, k76s, k77, k78]) (CSound.cons h58 (CSound.cons h59 (CSound.cons h60 (CSound.cons h73 (CSound.cons h76s (CSound.cons h77 (CSound.cons h78 CSound.nil))))))) rfl rfl rfl rfl rfl rfl ((s71 P58 P59 P60 P73 P76s P77 P78 x.1 x.2.1 x.2.2).trans hy)

/- tallyhall/input.one -/
def tc55 : TCode :=
  .seq (.region [
  ⟨some 3, .box (.t 0), none, []⟩,
  ⟨some 5, .box (.t 2), none, []⟩,
  ⟨some 6, .mov (.c (.slice none 0 0)), none, []⟩,
  ⟨some 7, .mov (.c (.nilIface)), none, []⟩] [] false)
  (.seq (.seq (.region [
  ⟨some 9, .load (some 1) (.t 3), none, []⟩,
  ⟨some 10, .mov (.t 1), none, []⟩,
  ⟨some 11, .call false [] 27 [(.t 9), (.t 10)], none, []⟩,
  ⟨some 8, .mov (.t 11), none, []⟩] [] false)
  (.seq (.region [
  ⟨some 12, .mov (.t 8), none, []⟩,
  ⟨some 13, .eqn false true (.t 12), none, []⟩] [] false)
  (.cond (.t 13)
    (.seq (.region [
  ⟨some 14, .mov (.t 8), none, []⟩,
  ⟨some 6, .mov (.c (.slice none 0 0)), none, []⟩,
  ⟨some 7, .mov (.t 14), none, []⟩] [] false)
    (.ret))
    (.skip))))
  (.seq (.region [
  ⟨some 15, .load (some 1) (.t 3), none, []⟩,
  ⟨some 16, .mov (.t 1), none, []⟩,
  ⟨some 18, .load (some 3) (.t 5), none, []⟩,
  ⟨some 17, .call true [3000] 72 [(.t 16)], none, [1]⟩,
  ⟨some 19, .call true [1001] 71 [(.t 15), (.t 17), (.t 18)], none, [0, 2, 3, 2]⟩,
  ⟨some 20, .ext (.t 19) 0, none, [4]⟩,
  ⟨some 21, .ext (.t 19) 1, none, [4]⟩,
  ⟨some 6, .mov (.t 20), none, [5, 4, 0, 1, 2, 3, 4, 5, 6]⟩,
  ⟨some 7, .mov (.t 21), none, [6, 7, 0, 1, 2, 3, 4, 5, 6, 7]⟩] [] true)
  (.ret)))
def tf55 : TFunc := { np := 3, nt := 22, res := [.tmp 6, .tmp 7], own := false, body := tc55 }
noncomputable def S55 (F27 : (List Dim) → (List Entry) → (Option Err)) (F71 : (List Dim) → (List Entry) → Edit → (Option ((List Entry) × Err))) (F72 : (List Entry) → (Option (List Entry))) (a0 : (List Dim)) (a1 : (List Entry)) (a2 : Edit) : Option ((List Entry) × Err) :=
  bno (F27 a0 a1) fun y1 =>
  br (!(Err.isNil y1))
  (some (([] : List Entry), y1))
  (bno (F72 a1) fun y2 =>
  bno (F71 a0 y2 a2) fun y3 =>
  some (y3.1, y3.2))
theorem s55 (F27 : (List Dim) → (List Entry) → (Option Err)) (F71 : (List Dim) → (List Entry) → Edit → (Option ((List Entry) × Err))) (F72 : (List Entry) → (Option (List Entry))) (a0 : (List Dim)) (a1 : (List Entry)) (a2 : Edit) : tf55.run [⟨27, [(.st .outl), (.sl .entry)], .err, fun x => F27 x.1 x.2, false, []⟩,
  ⟨71, [(.st .outl), (.own .entry), (.st .edit)], (.tp [(.own .entry), .err]), fun x => F71 x.1 x.2.1 x.2.2, false, [1001]⟩,
  ⟨72, [(.sl .entry)], (.own .entry), fun x => F72 x, false, []⟩] [(.st .outl), (.sl .entry), (.st .edit)] (.tp [(.sl .entry), .err]) (a0, a1, a2) = S55 F27 F71 F72 a0 a1 a2 := by kernel_rfl
noncomputable def P55 (a0 : (List Dim)) (a1 : (List Entry)) (a2 : Edit) : Option ((List Entry) × Err) := S55 P27 P71 P72 a0 a1 a2
noncomputable def k55 : CSpec := ⟨55, [(.st .outl), (.sl .entry), (.st .edit)], (.tp [(.sl .entry), .err]), fun x => P55 x.1 x.2.1 x.2.2, false, []⟩
theorem r55 {S : Seat} (h : Ok1 S 55 tf55) (h27 : Rt S k27) (h71 : Rt S k71) (h72 : Rt S k72) : Rt S k55 := fun x y hy =>
  Ok1.sound h (C := [k27, k71, k72]) (CSound.cons h27 (CSound.cons h71 (CSound.cons h72 CSound.nil))) rfl rfl rfl ((s55 P27 P71 P72 x.1 x.2.1 x.2.2).trans hy) rfl

/- tallyhall/input.Set -/
def tc25 : TCode :=
  .seq (.region [
  ⟨some 4, .box (.t 0), none, []⟩,
  ⟨some 8, .mov (.c (.slice none 0 0)), none, []⟩,
  ⟨some 9, .mov (.c (.nilIface)), none, []⟩] [] false)
  (.seq (.region [
  ⟨some 10, .load (some 1) (.t 4), none, []⟩,
  ⟨some 11, .mov (.t 1), none, []⟩,
  ⟨some 12, .mov (.t 2), none, []⟩,
  ⟨some 13, .mov (.t 3), none, []⟩,
  ⟨some 14, .build [.slice none 0 0, .int .i64 0, .bool false] [(0, 1, (.t 12)), (1, 1, (.t 13))], none, []⟩,
  ⟨some 15, .call true [] 55 [(.t 10), (.t 11), (.t 14)], none, []⟩,
  ⟨some 16, .ext (.t 15) 0, none, []⟩,
  ⟨some 17, .ext (.t 15) 1, none, []⟩,
  ⟨some 8, .mov (.t 16), none, []⟩,
  ⟨some 9, .mov (.t 17), none, []⟩] [] false)
  (.ret))
def tf25 : TFunc := { np := 4, nt := 18, res := [.tmp 8, .tmp 9], own := false, body := tc25 }
noncomputable def S25 (F55 : (List Dim) → (List Entry) → Edit → (Option ((List Entry) × Err))) (a0 : (List Dim)) (a1 : (List Entry)) (a2 : (List Int)) (a3 : Int) : Option ((List Entry) × Err) :=
  bno (F55 a0 a1 (Edit.mk a2 a3 false)) fun y1 =>
  some (y1.1, y1.2)
theorem s25 (F55 : (List Dim) → (List Entry) → Edit → (Option ((List Entry) × Err))) (a0 : (List Dim)) (a1 : (List Entry)) (a2 : (List Int)) (a3 : Int) : tf25.run [⟨55, [(.st .outl), (.sl .entry), (.st .edit)], (.tp [(.sl .entry), .err]), fun x => F55 x.1 x.2.1 x.2.2, false, []⟩] [(.st .outl), (.sl .entry), (.sl .int), .int] (.tp [(.sl .entry), .err]) (a0, a1, a2, a3) = S25 F55 a0 a1 a2 a3 := by kernel_rfl
noncomputable def P25 (a0 : (List Dim)) (a1 : (List Entry)) (a2 : (List Int)) (a3 : Int) : Option ((List Entry) × Err) := S25 P55 a0 a1 a2 a3
noncomputable def k25 : CSpec := ⟨25, [(.st .outl), (.sl .entry), (.sl .int), .int], (.tp [(.sl .entry), .err]), fun x => P25 x.1 x.2.1 x.2.2.1 x.2.2.2, false, []⟩
theorem r25 {S : Seat} (h : Ok1 S 25 tf25) (h55 : Rt S k55) : Rt S k25 := fun x y hy =>
  Ok1.sound h (C := [k55]) (CSound.cons h55 CSound.nil) rfl rfl rfl ((s25 P55 x.1 x.2.1 x.2.2.1 x.2.2.2).trans hy) rfl

/- tallyhall/input.Clear -/
def tc29 : TCode :=
  .seq (.region [
  ⟨some 3, .box (.t 0), none, []⟩,
  ⟨some 6, .mov (.c (.slice none 0 0)), none, []⟩,
  ⟨some 7, .mov (.c (.nilIface)), none, []⟩] [] false)
  (.seq (.region [
  ⟨some 8, .load (some 1) (.t 3), none, []⟩,
  ⟨some 9, .mov (.t 1), none, []⟩,
  ⟨some 10, .mov (.t 2), none, []⟩,
  ⟨some 11, .build [.slice none 0 0, .int .i64 0, .bool false] [(0, 1, (.t 10)), (2, 1, (.c (.bool true)))], none, []⟩,
  ⟨some 12, .call true [] 55 [(.t 8), (.t 9), (.t 11)], none, []⟩,
  ⟨some 13, .ext (.t 12) 0, none, []⟩,
  ⟨some 14, .ext (.t 12) 1, none, []⟩,
  ⟨some 6, .mov (.t 13), none, []⟩,
  ⟨some 7, .mov (.t 14), none, []⟩] [] false)
  (.ret))
def tf29 : TFunc := { np := 3, nt := 15, res := [.tmp 6, .tmp 7], own := false, body := tc29 }
noncomputable def S29 (F55 : (List Dim) → (List Entry) → Edit → (Option ((List Entry) × Err))) (a0 : (List Dim)) (a1 : (List Entry)) (a2 : (List Int)) : Option ((List Entry) × Err) :=
  bno (F55 a0 a1 (Edit.mk a2 (0 : Int) true)) fun y1 =>
  some (y1.1, y1.2)
theorem s29 (F55 : (List Dim) → (List Entry) → Edit → (Option ((List Entry) × Err))) (a0 : (List Dim)) (a1 : (List Entry)) (a2 : (List Int)) : tf29.run [⟨55, [(.st .outl), (.sl .entry), (.st .edit)], (.tp [(.sl .entry), .err]), fun x => F55 x.1 x.2.1 x.2.2, false, []⟩] [(.st .outl), (.sl .entry), (.sl .int)] (.tp [(.sl .entry), .err]) (a0, a1, a2) = S29 F55 a0 a1 a2 := by kernel_rfl
noncomputable def P29 (a0 : (List Dim)) (a1 : (List Entry)) (a2 : (List Int)) : Option ((List Entry) × Err) := S29 P55 a0 a1 a2
noncomputable def k29 : CSpec := ⟨29, [(.st .outl), (.sl .entry), (.sl .int)], (.tp [(.sl .entry), .err]), fun x => P29 x.1 x.2.1 x.2.2, false, []⟩
theorem r29 {S : Seat} (h : Ok1 S 29 tf29) (h55 : Rt S k55) : Rt S k29 := fun x y hy =>
  Ok1.sound h (C := [k55]) (CSound.cons h55 CSound.nil) rfl rfl rfl ((s29 P55 x.1 x.2.1 x.2.2).trans hy) rfl

end Ab
