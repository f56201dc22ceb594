/-
  Functions of the program as typed code, what they come to, and their contracts: written by program (mk.py).
-/
import Derived.Test.YtchidgkpkhloeaaGreatDoorB2
import Derived.KernelRfl
import Derived.Test.YtchidgkpkhloeaaGreatDoorH7
import Derived.Test.YtchidgkpkhloeaaGreatDoorMF
namespace Ab
open Go
set_option linter.unusedVariables false
set_option maxRecDepth 100000
def tc309 : TCode :=
  .seq (.region [
 oq 2 (.mov (.c (.bool false)))] [] false)
  (.seq (.seq (.regionJ ⟨[.slot 12 .bool], [7, 8, 9, 10, 11], [], []⟩ [
 oq 7 (.mov (.t 0)),
 oq 8 (.bin .int .lss (.t 7) (.c (.int .i64 1))),
 oq 9 (.mov (.t 8)),
  ⟨some 10, .mov (.t 0), (some (9, false)), []⟩,
  ⟨some 11, .bin .int .gtr (.t 10) (.c (.int .i64 9)), (some (9, false)), []⟩,
 oq 12 (.pick (.t 9) (.c (.bool true)) (.t 11))] [] false)
  (.cond (.t 12)
    (.seq (.region [
 oq 2 (.mov (.c (.bool true)))] [] false)
    (.ret))
    (.skip)))
  (.seq (.region [
 oq 14 (.mov (.t 0)),
 oq 15 (.call true [] 22 [(.t 14)]),
 oq 16 (.call true [] 332 [(.t 15), (.c (.slice none 0 0))]),
 oq 13 (.mov (.t 16)),
 oq 17 (.ext (.t 13) 0),
 oq 18 (.ext (.t 13) 1),
 oq 3 (.mov (.t 17)),
 oq 4 (.mov (.t 18))] [] false)
  (.seq (.seq (.regionJ ⟨[.slot 30 .bool], [19, 20, 21, 22, 23, 24, 25, 26, 27, 28, 29], [], []⟩ [
 oq 19 (.mov (.t 4)),
 oq 20 (.eqn false true (.t 19)),
 oq 21 (.mov (.t 20)),
  ⟨some 22, .mov (.t 3), (some (21, false)), []⟩,
  ⟨some 23, .len false (.t 22), (some (21, false)), []⟩,
  ⟨some 24, .mov (.t 0), (some (21, false)), []⟩,
  ⟨some 25, .bin .int .add (.t 24) (.c (.int .i64 1)), (some (21, false)), []⟩,
  ⟨some 26, .mov (.t 0), (some (21, false)), []⟩,
  ⟨some 27, .bin .int .add (.t 26) (.c (.int .i64 1)), (some (21, false)), []⟩,
  ⟨some 28, .bin .int .mul (.t 25) (.t 27), (some (21, false)), []⟩,
  ⟨some 29, .bin .int .neq (.t 23) (.t 28), (some (21, false)), []⟩,
 oq 30 (.pick (.t 21) (.c (.bool true)) (.t 29))] [] false)
  (.cond (.t 30)
    (.seq (.region [
 oq 2 (.mov (.c (.bool false)))] [] false)
    (.ret))
    (.skip)))
  (.seq (.seq (.region [
 oq 5 (.mov (.c (.int .i64 0)))] [] false)
  (.loop ⟨[.slot 5 .int], [31, 32, 33, 34, 35, 36, 37, 38, 39, 40, 41, 42], [], []⟩ 0 (.seq (.seq (.region [
 oq 31 (.mov (.t 5)),
 oq 32 (.mov (.t 3)),
 oq 33 (.len false (.t 32)),
 oq 34 (.bin .int .lss (.t 31) (.t 33))] [] false)
    (.cond (.t 34)
      (.skip)
      (.exit 0)))
    (.seq (.block 1 (.seq (.region [
 oq 37 (.mov (.t 3)),
 oq 38 (.mov (.t 5)),
 oq 39 (.ia 2 (.t 37) (.t 38)),
 oq 40 (.fa 0 (.t 39)),
 oq 41 (.load none (.t 40)),
 oq 42 (.bin .int .neq (.t 41) (.c (.int .i64 0)))] [] false)
      (.cond (.t 42)
        (.seq (.region [
 oq 2 (.mov (.c (.bool false)))] [] false)
        (.ret))
        (.skip))))
    (.region [
 oq 35 (.mov (.t 5)),
 oq 36 (.bin .int .add (.t 35) (.c (.int .i64 1))),
 oq 5 (.mov (.t 36))] [] false)))))
  (.seq (.region [
 oq 44 (.mov (.t 0)),
 oq 45 (.call true [] 22 [(.t 44)]),
 oq 46 (.call true [] 333 [(.t 45), (.c (.slice none 0 0))]),
 oq 43 (.mov (.t 46)),
 oq 47 (.ext (.t 43) 0),
 oq 48 (.ext (.t 43) 1),
 oq 6 (.mov (.t 47)),
 oq 4 (.mov (.t 48))] [] false)
  (.seq (.regionJ ⟨[.slot 2 .bool], [49, 50, 51, 52, 53, 54, 55], [], []⟩ [
 oq 49 (.mov (.t 4)),
 oq 50 (.eqn false false (.t 49)),
 oq 51 (.mov (.t 50)),
  ⟨some 52, .mov (.t 6), (some (51, true)), []⟩,
  ⟨some 53, .len false (.t 52), (some (51, true)), []⟩,
  ⟨some 54, .bin .int .eql (.t 53) (.c (.int .i64 0)), (some (51, true)), []⟩,
 oq 55 (.pick (.t 51) (.t 54) (.c (.bool false))),
 oq 2 (.mov (.t 55))] [] false)
  (.ret)))))))
def tf309 : TFunc := { np := 1, nt := 56, res := [.tmp 2], own := false, body := tc309 }
noncomputable def S309_L1 (y3 : ((List Cell) × Err)) (x5 : Int) : Option (LR Int Bool) :=
  br (decide (x5 < ((List.length y3.1 : Nat) : Int)))
  (bno (lookI y3.1 x5) fun y6 =>
  br (decide (¬ (Cell.k y6) = (0 : Int)))
  (finO (some false))
  (nxO (some (wi (x5 + (1 : Int))))))
  (dnO (some x5))
noncomputable def S309 (F22 : Int → (Option (List Dim))) (F332 : (List Dim) → (List Entry) → (Option ((List Cell) × Err))) (F333 : (List Dim) → (List Entry) → (Option ((List (List Int)) × Err))) (a0 : Int) : Option Bool :=
  jn (σ := Bool) (α := Bool) (br (decide (a0 < (1 : Int)))
  (inlO (some true))
  (inlO (some (decide ((9 : Int) < a0))))) fun x1 =>
  br x1
  (some true)
  (bno (F22 a0) fun y2 =>
  bno (F332 y2 ([] : List Entry)) fun y3 =>
  jn (σ := Bool) (α := Bool) (br (!(Err.isNil y3.2))
  (inlO (some true))
  (inlO (some (decide (¬ ((List.length y3.1 : Nat) : Int) = (wi ((wi (a0 + (1 : Int))) * (wi (a0 + (1 : Int)))))))))) fun x4 =>
  br x4
  (some false)
  (lp (S309_L1 y3) (0 : Int) fun x7 =>
  bno (F22 a0) fun y8 =>
  bno (F333 y8 ([] : List Entry)) fun y9 =>
  jn (σ := Bool) (α := Bool) (br (Err.isNil y9.2)
  (inlO (some (decide (((List.length y9.1 : Nat) : Int) = (0 : Int)))))
  (inlO (some false))) fun x10 =>
  some x10))
theorem s309 (F22 : Int → (Option (List Dim))) (F332 : (List Dim) → (List Entry) → (Option ((List Cell) × Err))) (F333 : (List Dim) → (List Entry) → (Option ((List (List Int)) × Err))) (a0 : Int) : tf309.run [⟨22, [.int], (.st .outl), fun x => F22 x, false, []⟩,
  ⟨332, [(.st .outl), (.sl .entry)], (.tp [(.sl .cell), .err]), fun x => F332 x.1 x.2, false, []⟩,
  ⟨333, [(.st .outl), (.sl .entry)], (.tp [(.sl (.sl .int)), .err]), fun x => F333 x.1 x.2, false, []⟩] [.int] .bool a0 = S309 F22 F332 F333 a0 := by kernel_rfl
noncomputable def P309 (a0 : Int) : Option Bool := S309 P22 P332 P333 a0
noncomputable def k309 : CSpec := ⟨309, [.int], .bool, fun x => P309 x, false, []⟩
theorem r309 {S : Seat} (h : Ok1 S 309 tf309) (h22 : Rt S k22) (h332 : Rt S k332) (h333 : Rt S k333) : Rt S k309 := fun x y hy =>
  Ok1.sound h (C := [k22, k332, k333]) (CSound.cons h22 (CSound.cons h332 (CSound.cons h333 CSound.nil))) rfl rfl rfl ((s309 P22 P332 P333 x).trans hy) rfl
end Ab
