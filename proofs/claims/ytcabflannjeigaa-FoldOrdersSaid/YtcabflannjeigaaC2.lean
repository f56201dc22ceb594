import Derived.Test.YtcabflannjeigaaB2
import Derived.KernelRfl
import Derived.Test.YtcabflannjeigaaMO
import Derived.Test.YtcabflannjeigaaMT
section
namespace Ab
open Go
set_option linter.unusedVariables false
set_option maxRecDepth 100000

/- tallyhall/place.NumberOf -/
def tc49 : TCode :=
  .seq (.region [
  ⟨some 2, .box (.t 0), none, []⟩,
  ⟨some 4, .mov (.c (.int .i64 0)), none, []⟩] [] false)
  (.seq (.region [
  ⟨some 5, .mov (.c (.int .i64 0)), none, []⟩] [] false)
  (.seq (.seq (.region [
  ⟨some 8, .mov (.t 1), none, []⟩,
  ⟨some 9, .len false (.t 8), none, []⟩,
  ⟨some 10, .mov (.c (.int .i64 0)), none, []⟩] [] false)
  (.loop ⟨[.slot 5 .int, .slot 10 .int], [6, 7, 11, 12, 13, 14, 15, 16, 17, 18, 19, 20, 21, 22, 23, 24, 25, 26], [], []⟩ 0 (.seq (.region [
  ⟨some 11, .bin .int .lss (.t 10) (.t 9), none, []⟩] [] false)
    (.seq (.cond (.t 11)
      (.skip)
      (.exit 0))
    (.seq (.block 1 (.seq (.region [
  ⟨some 12, .mov (.t 10), none, []⟩,
  ⟨some 13, .ia 1 (.t 8) (.t 10), none, []⟩,
  ⟨some 14, .load none (.t 13), none, []⟩,
  ⟨some 6, .mov (.t 12), none, []⟩,
  ⟨some 7, .mov (.t 14), none, []⟩] [] false)
      (.region [
  ⟨some 15, .mov (.t 5), none, []⟩,
  ⟨some 16, .fa 0 (.t 2), none, []⟩,
  ⟨some 17, .load none (.t 16), none, []⟩,
  ⟨some 18, .mov (.t 6), none, []⟩,
  ⟨some 19, .ia 3 (.t 17) (.t 18), none, []⟩,
  ⟨some 20, .fa 2 (.t 19), none, []⟩,
  ⟨some 21, .load none (.t 20), none, []⟩,
  ⟨some 22, .len false (.t 21), none, []⟩,
  ⟨some 23, .bin .int .mul (.t 15) (.t 22), none, []⟩,
  ⟨some 24, .mov (.t 7), none, []⟩,
  ⟨some 25, .bin .int .add (.t 23) (.t 24), none, []⟩,
  ⟨some 5, .mov (.t 25), none, []⟩] [] false)))
    (.region [
  ⟨some 26, .bin .int .add (.t 10) (.c (.int .i64 1)), none, []⟩,
  ⟨some 10, .mov (.t 26), none, []⟩] [] false))))))
  (.seq (.region [
  ⟨some 27, .mov (.t 5), none, []⟩,
  ⟨some 4, .mov (.t 27), none, []⟩] [] false)
  (.ret))))
def tf49 : TFunc := { np := 2, nt := 28, res := [.tmp 4], own := false, body := tc49 }
noncomputable def S49_L1 (a0 : (List Dim)) (a1 : (List Int)) (x1 : (Int × Int)) : Option (LR (Int × Int) Int) :=
  br (decide (x1.2 < ((List.length a1 : Nat) : Int)))
  (bno (lookI a1 x1.2) fun y2 =>
  bno (lookI a0 x1.2) fun y3 =>
  nxO (some (wi ((wi (x1.1 * ((List.length (Dim.members y3) : Nat) : Int))) + y2), wi (x1.2 + (1 : Int)))))
  (dnO (some (x1.1, x1.2)))
noncomputable def S49 (a0 : (List Dim)) (a1 : (List Int)) : Option Int :=
  lp (S49_L1 a0 a1) ((0 : Int), (0 : Int)) fun x4 =>
  some x4.1
theorem s49 (a0 : (List Dim)) (a1 : (List Int)) : tf49.run [] [(.st .outl), (.sl .int)] .int (a0, a1) = S49 a0 a1 := by kernel_rfl
noncomputable def P49 (a0 : (List Dim)) (a1 : (List Int)) : Option Int := S49 a0 a1
noncomputable def k49 : CSpec := ⟨49, [(.st .outl), (.sl .int)], .int, fun x => P49 x.1 x.2, false, []⟩
theorem r49 {S : Seat} (h : Ok1 S 49 tf49) : Rt S k49 := fun x y hy =>
  Ok1.sound h (C := []) CSound.nil rfl rfl rfl ((s49 x.1 x.2).trans hy) rfl

/- tallyhall/place.Fits -/
def tc58 : TCode :=
  .seq (.region [
  ⟨some 2, .box (.t 0), none, []⟩,
  ⟨some 4, .mov (.c (.nilIface)), none, []⟩] [] false)
  (.seq (.seq (.region [
  ⟨some 7, .mov (.t 1), none, []⟩,
  ⟨some 8, .len false (.t 7), none, []⟩,
  ⟨some 9, .fa 0 (.t 2), none, []⟩,
  ⟨some 10, .load none (.t 9), none, []⟩,
  ⟨some 11, .len false (.t 10), none, []⟩,
  ⟨some 12, .bin .int .neq (.t 8) (.t 11), none, []⟩] [] false)
  (.cond (.t 12)
    (.seq (.region [
  ⟨some 13, .ifc 1 (.c (.int .i64 3)), none, []⟩,
  ⟨some 4, .mov (.t 13), none, []⟩] [] false)
    (.ret))
    (.skip)))
  (.seq (.seq (.region [
  ⟨some 14, .mov (.t 1), none, []⟩,
  ⟨some 15, .len false (.t 14), none, []⟩,
  ⟨some 16, .mov (.c (.int .i64 0)), none, []⟩] [] false)
  (.loop ⟨[.slot 16 .int], [5, 6, 17, 18, 19, 20, 21, 22, 23, 24, 25, 26, 27, 28, 29, 30, 31, 32, 33, 35], [], []⟩ 0 (.seq (.region [
  ⟨some 17, .bin .int .lss (.t 16) (.t 15), none, []⟩] [] false)
    (.seq (.cond (.t 17)
      (.skip)
      (.exit 0))
    (.seq (.block 1 (.seq (.region [
  ⟨some 18, .mov (.t 16), none, []⟩,
  ⟨some 19, .ia 1 (.t 14) (.t 16), none, []⟩,
  ⟨some 20, .load none (.t 19), none, []⟩,
  ⟨some 5, .mov (.t 18), none, []⟩,
  ⟨some 6, .mov (.t 20), none, []⟩] [] false)
      (.seq (.regionJ ⟨[.slot 33 .bool], [21, 22, 23, 24, 25, 26, 27, 28, 29, 30, 31, 32], [], []⟩ [
  ⟨some 21, .mov (.t 6), none, []⟩,
  ⟨some 22, .bin .int .lss (.t 21) (.c (.int .i64 0)), none, []⟩,
  ⟨some 23, .mov (.t 22), none, []⟩,
  ⟨some 24, .mov (.t 6), (some (23, false)), []⟩,
  ⟨some 25, .fa 0 (.t 2), (some (23, false)), []⟩,
  ⟨some 26, .load none (.t 25), (some (23, false)), []⟩,
  ⟨some 27, .mov (.t 5), (some (23, false)), []⟩,
  ⟨some 28, .ia 3 (.t 26) (.t 27), (some (23, false)), []⟩,
  ⟨some 29, .fa 2 (.t 28), (some (23, false)), []⟩,
  ⟨some 30, .load none (.t 29), (some (23, false)), []⟩,
  ⟨some 31, .len false (.t 30), (some (23, false)), []⟩,
  ⟨some 32, .bin .int .geq (.t 24) (.t 31), (some (23, false)), []⟩,
  ⟨some 33, .pick (.t 23) (.c (.bool true)) (.t 32), none, []⟩] [] false)
      (.cond (.t 33)
        (.seq (.region [
  ⟨some 34, .ifc 1 (.c (.int .i64 1)), none, []⟩,
  ⟨some 4, .mov (.t 34), none, []⟩] [] false)
        (.ret))
        (.skip)))))
    (.region [
  ⟨some 35, .bin .int .add (.t 16) (.c (.int .i64 1)), none, []⟩,
  ⟨some 16, .mov (.t 35), none, []⟩] [] false))))))
  (.seq (.region [
  ⟨some 4, .mov (.c (.nilIface)), none, []⟩] [] false)
  (.ret))))
def tf58 : TFunc := { np := 2, nt := 36, res := [.tmp 4], own := false, body := tc58 }
noncomputable def S58_L1 (a0 : (List Dim)) (a1 : (List Int)) (x1 : Int) : Option (LR Int Err) :=
  br (decide (x1 < ((List.length a1 : Nat) : Int)))
  (bno (lookI a1 x1) fun y2 =>
  jn (σ := Bool) (α := (LR Int Err)) (br (decide (y2 < (0 : Int)))
  (inlO (some true))
  (bno (lookI a0 x1) fun y3 =>
  inlO (some (decide (((List.length (Dim.members y3) : Nat) : Int) ≤ y2))))) fun x4 =>
  br x4
  (finO (some (Err.no (1 : Int))))
  (nxO (some (wi (x1 + (1 : Int))))))
  (dnO (some x1))
noncomputable def S58 (a0 : (List Dim)) (a1 : (List Int)) : Option Err :=
  br (decide (¬ ((List.length a1 : Nat) : Int) = ((List.length a0 : Nat) : Int)))
  (some (Err.no (3 : Int)))
  (lp (S58_L1 a0 a1) (0 : Int) fun x5 =>
  some Err.nil)
theorem s58 (a0 : (List Dim)) (a1 : (List Int)) : tf58.run [] [(.st .outl), (.sl .int)] .err (a0, a1) = S58 a0 a1 := by kernel_rfl
noncomputable def P58 (a0 : (List Dim)) (a1 : (List Int)) : Option Err := S58 a0 a1
noncomputable def k58 : CSpec := ⟨58, [(.st .outl), (.sl .int)], .err, fun x => P58 x.1 x.2, false, []⟩
theorem r58 {S : Seat} (h : Ok1 S 58 tf58) : Rt S k58 := fun x y hy =>
  Ok1.sound h (C := []) CSound.nil rfl rfl rfl ((s58 x.1 x.2).trans hy) rfl

/- tallyhall/place.IsLeaf -/
def tc59 : TCode :=
  .seq (.region [
  ⟨some 2, .box (.t 0), none, []⟩,
  ⟨some 4, .mov (.c (.bool false)), none, []⟩] [] false)
  (.seq (.seq (.region [
  ⟨some 7, .mov (.t 1), none, []⟩,
  ⟨some 8, .len false (.t 7), none, []⟩,
  ⟨some 9, .mov (.c (.int .i64 0)), none, []⟩] [] false)
  (.loop ⟨[.slot 9 .int], [5, 6, 10, 11, 12, 13, 14, 15, 16, 17, 18, 19, 20, 21, 22], [], []⟩ 0 (.seq (.region [
  ⟨some 10, .bin .int .lss (.t 9) (.t 8), none, []⟩] [] false)
    (.seq (.cond (.t 10)
      (.skip)
      (.exit 0))
    (.seq (.block 1 (.seq (.region [
  ⟨some 11, .mov (.t 9), none, []⟩,
  ⟨some 12, .ia 1 (.t 7) (.t 9), none, []⟩,
  ⟨some 13, .load none (.t 12), none, []⟩,
  ⟨some 5, .mov (.t 11), none, []⟩,
  ⟨some 6, .mov (.t 13), none, []⟩] [] false)
      (.seq (.region [
  ⟨some 14, .fa 0 (.t 2), none, []⟩,
  ⟨some 15, .load none (.t 14), none, []⟩,
  ⟨some 16, .mov (.t 5), none, []⟩,
  ⟨some 17, .ia 3 (.t 15) (.t 16), none, []⟩,
  ⟨some 18, .load (some 3) (.t 17), none, []⟩,
  ⟨some 19, .mov (.t 6), none, []⟩,
  ⟨some 20, .call false [] 44 [(.t 18), (.t 19)], none, []⟩,
  ⟨some 21, .un .not (.t 20), none, []⟩] [] false)
      (.cond (.t 21)
        (.seq (.region [
  ⟨some 4, .mov (.c (.bool false)), none, []⟩] [] false)
        (.ret))
        (.skip)))))
    (.region [
  ⟨some 22, .bin .int .add (.t 9) (.c (.int .i64 1)), none, []⟩,
  ⟨some 9, .mov (.t 22), none, []⟩] [] false))))))
  (.seq (.region [
  ⟨some 4, .mov (.c (.bool true)), none, []⟩] [] false)
  (.ret)))
def tf59 : TFunc := { np := 2, nt := 23, res := [.tmp 4], own := false, body := tc59 }
noncomputable def S59_L1 (F44 : Dim → Int → (Option Bool)) (a0 : (List Dim)) (a1 : (List Int)) (x1 : Int) : Option (LR Int Bool) :=
  br (decide (x1 < ((List.length a1 : Nat) : Int)))
  (bno (lookI a1 x1) fun y2 =>
  bno (lookI a0 x1) fun y3 =>
  bno (F44 y3 y2) fun y4 =>
  br (!y4)
  (finO (some false))
  (nxO (some (wi (x1 + (1 : Int))))))
  (dnO (some x1))
noncomputable def S59 (F44 : Dim → Int → (Option Bool)) (a0 : (List Dim)) (a1 : (List Int)) : Option Bool :=
  lp (S59_L1 F44 a0 a1) (0 : Int) fun x5 =>
  some true
theorem s59 (F44 : Dim → Int → (Option Bool)) (a0 : (List Dim)) (a1 : (List Int)) : tf59.run [⟨44, [(.st .dim), .int], .bool, fun x => F44 x.1 x.2, false, []⟩] [(.st .outl), (.sl .int)] .bool (a0, a1) = S59 F44 a0 a1 := by kernel_rfl
noncomputable def P59 (a0 : (List Dim)) (a1 : (List Int)) : Option Bool := S59 P44 a0 a1
noncomputable def k59 : CSpec := ⟨59, [(.st .outl), (.sl .int)], .bool, fun x => P59 x.1 x.2, false, []⟩
theorem r59 {S : Seat} (h : Ok1 S 59 tf59) (h44 : Rt S k44) : Rt S k59 := fun x y hy =>
  Ok1.sound h (C := [k44]) (CSound.cons h44 CSound.nil) rfl rfl rfl ((s59 P44 x.1 x.2).trans hy) rfl

/- tallyhall/place.At -/
def tc69 : TCode :=
  .seq (.region [
  ⟨some 2, .box (.t 0), none, []⟩,
  ⟨some 4, .mov (.c (.slice none 0 0)), none, []⟩] [] false)
  (.seq (.region [
  ⟨some 8, .fa 0 (.t 2), none, []⟩,
  ⟨some 9, .load none (.t 8), none, []⟩,
  ⟨some 10, .len false (.t 9), none, []⟩,
  ⟨some 11, .mksl 1 [.int .i64 0] (.t 10) (.t 10), none, []⟩,
  ⟨some 5, .mov (.t 11), none, []⟩] [] false)
  (.seq (.seq (.region [
  ⟨some 12, .mov (.t 5), none, []⟩,
  ⟨some 13, .len false (.t 12), none, []⟩,
  ⟨some 14, .bin .int .sub (.t 13) (.c (.int .i64 1)), none, []⟩,
  ⟨some 6, .mov (.t 14), none, []⟩] [] false)
  (.loop ⟨[.slot 1 .int, .slot 6 .int, .rowH 11 .int], [7, 15, 16, 17, 18, 19, 20, 21, 22, 23, 24, 25, 26, 27, 28, 29, 30, 31, 32, 33, 34], [], []⟩ 0 (.seq (.seq (.region [
  ⟨some 15, .mov (.t 6), none, []⟩,
  ⟨some 16, .bin .int .geq (.t 15) (.c (.int .i64 0)), none, []⟩] [] false)
    (.cond (.t 16)
      (.skip)
      (.exit 0)))
    (.seq (.block 1 (.seq (.region [
  ⟨some 19, .fa 0 (.t 2), none, []⟩,
  ⟨some 20, .load none (.t 19), none, []⟩,
  ⟨some 21, .mov (.t 6), none, []⟩,
  ⟨some 22, .ia 3 (.t 20) (.t 21), none, []⟩,
  ⟨some 23, .fa 2 (.t 22), none, []⟩,
  ⟨some 24, .load none (.t 23), none, []⟩,
  ⟨some 25, .len false (.t 24), none, []⟩,
  ⟨some 7, .mov (.t 25), none, []⟩] [] false)
      (.seq (.region [
  ⟨some 26, .mov (.t 5), none, []⟩,
  ⟨some 27, .mov (.t 6), none, []⟩,
  ⟨some 28, .mov (.t 1), none, []⟩,
  ⟨some 29, .mov (.t 7), none, []⟩,
  ⟨some 30, .bin .int .rem (.t 28) (.t 29), none, []⟩,
  ⟨some 31, .ia 1 (.t 26) (.t 27), none, []⟩,
  ⟨none, .store 1 (.t 31) (.t 30), none, []⟩] [] false)
      (.region [
  ⟨some 32, .mov (.t 1), none, []⟩,
  ⟨some 33, .mov (.t 7), none, []⟩,
  ⟨some 34, .bin .int .quo (.t 32) (.t 33), none, []⟩,
  ⟨some 1, .mov (.t 34), none, []⟩] [] false))))
    (.region [
  ⟨some 17, .mov (.t 6), none, []⟩,
  ⟨some 18, .bin .int .sub (.t 17) (.c (.int .i64 1)), none, []⟩,
  ⟨some 6, .mov (.t 18), none, []⟩] [] false)))))
  (.seq (.region [
  ⟨some 35, .mov (.t 5), none, []⟩,
  ⟨some 4, .mov (.t 35), none, []⟩] [] false)
  (.ret))))
def tf69 : TFunc := { np := 2, nt := 36, res := [.tmp 4], own := false, body := tc69 }
noncomputable def S69_L1 (a0 : (List Dim)) (x1 : (Int × Int × (List Int))) : Option (LR (Int × Int × (List Int)) (List Int)) :=
  br (decide ((0 : Int) ≤ x1.2.1))
  (bno (lookI a0 x1.2.1) fun y2 =>
  ck (decide (¬ ((List.length (Dim.members y2) : Nat) : Int) = 0)) <|
  ck (decide (0 ≤ x1.2.1 ∧ x1.2.1 < ((List.length x1.2.2 : Nat) : Int))) <|
  bno ((x1.2.2)[(Int.toNat x1.2.1)]?) fun y3 =>
  ck (decide (¬ ((List.length (Dim.members y2) : Nat) : Int) = 0)) <|
  nxO (some (wi (Int.tdiv x1.1 ((List.length (Dim.members y2) : Nat) : Int)), wi (x1.2.1 - (1 : Int)), List.set x1.2.2 (Int.toNat x1.2.1) (Int.tmod x1.1 ((List.length (Dim.members y2) : Nat) : Int)))))
  (dnO (some (x1.1, x1.2.1, x1.2.2)))
noncomputable def S69 (a0 : (List Dim)) (a1 : Int) : Option (List Int) :=
  ck (decide (0 ≤ ((List.length a0 : Nat) : Int) ∧ ((List.length a0 : Nat) : Int) ≤ ((List.length a0 : Nat) : Int) ∧ ((List.length a0 : Nat) : Int) ≤ roomA)) <|
  lp (S69_L1 a0) (a1, wi (((List.length (List.replicate (Int.toNat ((List.length a0 : Nat) : Int)) (0 : Int)) : Nat) : Int) - (1 : Int)), List.replicate (Int.toNat ((List.length a0 : Nat) : Int)) (0 : Int)) fun x4 =>
  some x4.2.2
theorem s69 (a0 : (List Dim)) (a1 : Int) : tf69.run [] [(.st .outl), .int] (.sl .int) (a0, a1) = S69 a0 a1 := by kernel_rfl
noncomputable def P69 (a0 : (List Dim)) (a1 : Int) : Option (List Int) := S69 a0 a1
noncomputable def k69 : CSpec := ⟨69, [(.st .outl), .int], (.sl .int), fun x => P69 x.1 x.2, false, []⟩
theorem r69 {S : Seat} (h : Ok1 S 69 tf69) : Rt S k69 := fun x y hy =>
  Ok1.sound h (C := []) CSound.nil rfl rfl rfl ((s69 x.1 x.2).trans hy) rfl

/- tallyhall/place.Cells -/
/- tallyhall/place.Of -/
end Ab
end

section
namespace Ab
open Go
set_option linter.unusedVariables false
set_option maxRecDepth 100000

/- tallyhall/place.Check -/
def tc114 : TCode :=
  .seq (.region [
  ⟨some 2, .box (.t 0), none, []⟩,
  ⟨some 4, .mov (.c (.nilIface)), none, []⟩] [] false)
  (.seq (.seq (.region [
  ⟨some 6, .load (some 1) (.t 2), none, []⟩,
  ⟨some 7, .call false [] 51 [(.t 6)], none, []⟩,
  ⟨some 5, .mov (.t 7), none, []⟩] [] false)
  (.seq (.region [
  ⟨some 8, .mov (.t 5), none, []⟩,
  ⟨some 9, .eqn false true (.t 8), none, []⟩] [] false)
  (.cond (.t 9)
    (.seq (.region [
  ⟨some 10, .mov (.t 5), none, []⟩,
  ⟨some 4, .mov (.t 10), none, []⟩] [] false)
    (.ret))
    (.skip))))
  (.seq (.region [
  ⟨some 11, .load (some 1) (.t 2), none, []⟩,
  ⟨some 12, .mov (.t 1), none, []⟩,
  ⟨some 13, .call false [] 58 [(.t 11), (.t 12)], none, []⟩,
  ⟨some 4, .mov (.t 13), none, []⟩] [] false)
  (.ret)))
def tf114 : TFunc := { np := 2, nt := 14, res := [.tmp 4], own := false, body := tc114 }
noncomputable def S114 (F51 : (List Dim) → (Option Err)) (F58 : (List Dim) → (List Int) → (Option Err)) (a0 : (List Dim)) (a1 : (List Int)) : Option Err :=
  bno (F51 a0) fun y1 =>
  br (!(Err.isNil y1))
  (some y1)
  (bno (F58 a0 a1) fun y2 =>
  some y2)
theorem s114 (F51 : (List Dim) → (Option Err)) (F58 : (List Dim) → (List Int) → (Option Err)) (a0 : (List Dim)) (a1 : (List Int)) : tf114.run [⟨51, [(.st .outl)], .err, fun x => F51 x, false, []⟩,
  ⟨58, [(.st .outl), (.sl .int)], .err, fun x => F58 x.1 x.2, false, []⟩] [(.st .outl), (.sl .int)] .err (a0, a1) = S114 F51 F58 a0 a1 := by kernel_rfl
noncomputable def P114 (a0 : (List Dim)) (a1 : (List Int)) : Option Err := S114 P51 P58 a0 a1
noncomputable def k114 : CSpec := ⟨114, [(.st .outl), (.sl .int)], .err, fun x => P114 x.1 x.2, false, []⟩
theorem r114 {S : Seat} (h : Ok1 S 114 tf114) (h51 : Rt S k51) (h58 : Rt S k58) : Rt S k114 := fun x y hy =>
  Ok1.sound h (C := [k51, k58]) (CSound.cons h51 (CSound.cons h58 CSound.nil)) rfl rfl rfl ((s114 P51 P58 x.1 x.2).trans hy) rfl

/- tallyhall/place.Number -/
def tc132 : TCode :=
  .seq (.region [
  ⟨some 2, .box (.t 0), none, []⟩,
  ⟨some 4, .mov (.c (.int .i64 0)), none, []⟩,
  ⟨some 5, .mov (.c (.nilIface)), none, []⟩] [] false)
  (.seq (.seq (.region [
  ⟨some 7, .load (some 1) (.t 2), none, []⟩,
  ⟨some 8, .mov (.t 1), none, []⟩,
  ⟨some 9, .call false [] 114 [(.t 7), (.t 8)], none, []⟩,
  ⟨some 6, .mov (.t 9), none, []⟩] [] false)
  (.seq (.region [
  ⟨some 10, .mov (.t 6), none, []⟩,
  ⟨some 11, .eqn false true (.t 10), none, []⟩] [] false)
  (.cond (.t 11)
    (.seq (.region [
  ⟨some 12, .mov (.t 6), none, []⟩,
  ⟨some 4, .mov (.c (.int .i64 0)), none, []⟩,
  ⟨some 5, .mov (.t 12), none, []⟩] [] false)
    (.ret))
    (.skip))))
  (.seq (.region [
  ⟨some 13, .load (some 1) (.t 2), none, []⟩,
  ⟨some 14, .mov (.t 1), none, []⟩,
  ⟨some 15, .call false [] 49 [(.t 13), (.t 14)], none, []⟩,
  ⟨some 4, .mov (.t 15), none, []⟩,
  ⟨some 5, .mov (.c (.nilIface)), none, []⟩] [] false)
  (.ret)))
def tf132 : TFunc := { np := 2, nt := 16, res := [.tmp 4, .tmp 5], own := false, body := tc132 }
noncomputable def S132 (F114 : (List Dim) → (List Int) → (Option Err)) (F49 : (List Dim) → (List Int) → (Option Int)) (a0 : (List Dim)) (a1 : (List Int)) : Option (Int × Err) :=
  bno (F114 a0 a1) fun y1 =>
  br (!(Err.isNil y1))
  (some ((0 : Int), y1))
  (bno (F49 a0 a1) fun y2 =>
  some (y2, Err.nil))
theorem s132 (F114 : (List Dim) → (List Int) → (Option Err)) (F49 : (List Dim) → (List Int) → (Option Int)) (a0 : (List Dim)) (a1 : (List Int)) : tf132.run [⟨114, [(.st .outl), (.sl .int)], .err, fun x => F114 x.1 x.2, false, []⟩,
  ⟨49, [(.st .outl), (.sl .int)], .int, fun x => F49 x.1 x.2, false, []⟩] [(.st .outl), (.sl .int)] (.tp [.int, .err]) (a0, a1) = S132 F114 F49 a0 a1 := by kernel_rfl
noncomputable def P132 (a0 : (List Dim)) (a1 : (List Int)) : Option (Int × Err) := S132 P114 P49 a0 a1
noncomputable def k132 : CSpec := ⟨132, [(.st .outl), (.sl .int)], (.tp [.int, .err]), fun x => P132 x.1 x.2, false, []⟩
theorem r132 {S : Seat} (h : Ok1 S 132 tf132) (h114 : Rt S k114) (h49 : Rt S k49) : Rt S k132 := fun x y hy =>
  Ok1.sound h (C := [k114, k49]) (CSound.cons h114 (CSound.cons h49 CSound.nil)) rfl rfl rfl ((s132 P114 P49 x.1 x.2).trans hy) rfl

/- tallyhall/place.Leaf -/
end Ab
end
