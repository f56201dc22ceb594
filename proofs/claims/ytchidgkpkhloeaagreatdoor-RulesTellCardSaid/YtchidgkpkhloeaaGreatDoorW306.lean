/-
  Functions of the program as typed code, what they come to, and their contracts: written by program (mk.py).
-/
import Derived.Test.YtchidgkpkhloeaaGreatDoorB2
import Derived.KernelRfl
import Derived.Test.YtchidgkpkhloeaaGreatDoorMRr
import Derived.Test.YtchidgkpkhloeaaGreatDoorMRu
import Derived.Test.YtchidgkpkhloeaaGreatDoorC1
namespace Ab
open Go
set_option linter.unusedVariables false
set_option maxRecDepth 100000
def tc306 : TCode :=
  .seq (.region [
 oq 3 (.box (.t 0)),
 oq 4 (.box (.t 1)),
 oq 6 (.mov (.c (.bool false)))] [] false)
  (.seq (.region [
 oq 27 (.load (some 1) (.t 3)),
 oq 28 (.call false [] 319 [(.t 27)]),
 oq 26 (.mov (.t 28)),
 oq 29 (.ext (.t 26) 0),
 oq 30 (.ext (.t 26) 1),
 oq 31 (.ext (.t 26) 2),
 oq 7 (.mov (.t 29)),
 oq 8 (.mov (.t 30)),
 oq 9 (.mov (.t 31))] [] false)
  (.seq (.region [
 oq 33 (.load (some 1) (.t 3)),
 oq 34 (.call false [] 320 [(.t 33)]),
 oq 32 (.mov (.t 34)),
 oq 35 (.ext (.t 32) 0),
 oq 36 (.ext (.t 32) 1),
 oq 37 (.ext (.t 32) 2),
 oq 10 (.mov (.t 35)),
 oq 11 (.mov (.t 36)),
 oq 12 (.mov (.t 37))] [] false)
  (.seq (.region [
 oq 38 (.mov (.t 12)),
 oq 39 (.mov (.t 9)),
 oq 40 (.call false [] 92 [(.t 38), (.t 39)]),
 oq 13 (.mov (.t 40))] [] false)
  (.seq (.region [
 oq 42 (.load (some 3) (.t 4)),
 oq 43 (.call true [] 321 [(.t 42)]),
 oq 41 (.mov (.t 43)),
 oq 44 (.ext (.t 41) 0),
 oq 45 (.ext (.t 41) 1),
 oq 46 (.ext (.t 41) 2),
 oq 14 (.mov (.t 44)),
 oq 15 (.mov (.t 45)),
 oq 9 (.mov (.t 46))] [] false)
  (.seq (.region [
 oq 48 (.load (some 3) (.t 4)),
 oq 49 (.call false [] 315 [(.t 48)]),
 oq 47 (.mov (.t 49)),
 oq 50 (.ext (.t 47) 0),
 oq 51 (.ext (.t 47) 1),
 oq 16 (.mov (.t 50)),
 oq 12 (.mov (.t 51))] [] false)
  (.seq (.region [
 oq 52 (.mov (.t 12)),
 oq 53 (.mov (.t 9)),
 oq 54 (.call false [] 92 [(.t 52), (.t 53)]),
 oq 17 (.mov (.t 54))] [] false)
  (.seq (.region [
 oq 18 (.mov (.c (.slice none 0 0))),
 oq 19 (.mov (.c (.slice none 0 0)))] [] false)
  (.seq (.seq (.region [
 oq 55 (.mov (.t 9)),
 oq 56 (.bin .int .eql (.t 55) (.c (.int .i64 0)))] [] false)
  (.condJ ⟨[.slot 18 (.sl .int)], [57, 58], [], []⟩ (.t 56)
    (.region [
 oq 57 (.mov (.t 14)),
 oq 58 (.call true [] 322 [(.t 57)]),
 oq 18 (.mov (.t 58))] [] false)
    (.skip)))
  (.seq (.region [
 oq 60 (.load (some 3) (.t 4)),
 oq 61 (.call true [] 316 [(.t 60)]),
 oq 59 (.mov (.t 61)),
 oq 62 (.ext (.t 59) 0),
 oq 63 (.ext (.t 59) 1),
 oq 20 (.mov (.t 62)),
 oq 12 (.mov (.t 63))] [] false)
  (.seq (.region [
 oq 64 (.mov (.t 12)),
 oq 65 (.mov (.t 9)),
 oq 66 (.call false [] 92 [(.t 64), (.t 65)]),
 oq 21 (.mov (.t 66))] [] false)
  (.seq (.seq (.regionJ ⟨[.slot 78 .bool], [67, 68, 69, 70, 71, 72, 73, 74, 75, 76, 77], [], []⟩ [
 oq 67 (.mov (.t 9)),
 oq 68 (.bin .int .eql (.t 67) (.c (.int .i64 0))),
 oq 69 (.mov (.t 68)),
  ⟨some 70, .mov (.t 2), (some (69, true)), []⟩,
  ⟨some 71, .bin .int .lss (.t 70) (.c (.int .i64 0)), (some (69, true)), []⟩,
  ⟨some 72, .mov (.t 71), (some (69, true)), []⟩,
  ⟨some 73, .mov (.t 2), (some (72, false)), []⟩,
  ⟨some 74, .mov (.t 14), (some (72, false)), []⟩,
  ⟨some 75, .len false (.t 74), (some (72, false)), []⟩,
  ⟨some 76, .bin .int .geq (.t 73) (.t 75), (some (72, false)), []⟩,
  ⟨some 77, .pick (.t 72) (.c (.bool true)) (.t 76), (some (69, true)), []⟩,
 oq 78 (.pick (.t 69) (.t 77) (.c (.bool false)))] [] false)
  (.condJ ⟨[.slot 9 .int, .slot 19 (.sl .int)], [79, 80, 81, 82, 83, 84], [], []⟩ (.t 78)
    (.region [
 oq 9 (.mov (.c (.int .i64 1)))] [] false)
    (.seq (.region [
 oq 79 (.mov (.t 9)),
 oq 80 (.bin .int .eql (.t 79) (.c (.int .i64 0)))] [] false)
    (.condJ ⟨[.slot 19 (.sl .int)], [81, 82, 83, 84], [], []⟩ (.t 80)
      (.region [
 oq 81 (.mov (.t 14)),
 oq 82 (.mov (.t 2)),
 oq 83 (.ia 1 (.t 81) (.t 82)),
 oq 84 (.load none (.t 83)),
 oq 19 (.mov (.t 84))] [] false)
      (.skip)))))
  (.seq (.region [
 oq 86 (.load (some 3) (.t 4)),
 oq 87 (.mov (.t 2)),
 oq 88 (.call true [] 323 [(.t 86), (.t 87)]),
 oq 85 (.mov (.t 88)),
 oq 89 (.ext (.t 85) 0),
 oq 90 (.ext (.t 85) 1),
 oq 22 (.mov (.t 89)),
 oq 12 (.mov (.t 90))] [] false)
  (.seq (.region [
 oq 91 (.mov (.t 12)),
 oq 92 (.mov (.t 9)),
 oq 93 (.call false [] 92 [(.t 91), (.t 92)]),
 oq 23 (.mov (.t 93))] [] false)
  (.seq (.region [
 oq 94 (.mov (.t 20)),
 oq 95 (.mov (.t 18)),
 oq 96 (.call false [] 104 [(.t 94), (.t 95)]),
 oq 24 (.mov (.t 96))] [] false)
  (.seq (.region [
 oq 97 (.mov (.t 22)),
 oq 98 (.mov (.t 19)),
 oq 99 (.call false [] 104 [(.t 97), (.t 98)]),
 oq 25 (.mov (.t 99))] [] false)
  (.seq (.regionJ ⟨[.slot 6 .bool], [100, 101, 102, 103, 104, 105, 106, 107, 108, 109, 110, 111, 112, 113, 114, 115, 116, 117, 118, 119, 120, 121, 122, 123, 124, 125, 126, 127, 128, 129, 130], [], []⟩ [
 oq 100 (.mov (.t 13)),
 oq 101 (.mov (.t 100)),
  ⟨some 102, .mov (.t 17), (some (101, true)), []⟩,
 oq 103 (.pick (.t 101) (.t 102) (.c (.bool false))),
 oq 104 (.mov (.t 103)),
  ⟨some 105, .mov (.t 21), (some (104, true)), []⟩,
 oq 106 (.pick (.t 104) (.t 105) (.c (.bool false))),
 oq 107 (.mov (.t 106)),
  ⟨some 108, .mov (.t 23), (some (107, true)), []⟩,
 oq 109 (.pick (.t 107) (.t 108) (.c (.bool false))),
 oq 110 (.mov (.t 109)),
  ⟨some 111, .mov (.t 24), (some (110, true)), []⟩,
 oq 112 (.pick (.t 110) (.t 111) (.c (.bool false))),
 oq 113 (.mov (.t 112)),
  ⟨some 114, .mov (.t 25), (some (113, true)), []⟩,
 oq 115 (.pick (.t 113) (.t 114) (.c (.bool false))),
 oq 116 (.mov (.t 115)),
  ⟨some 117, .mov (.t 10), (some (116, true)), []⟩,
  ⟨some 118, .mov (.t 7), (some (116, true)), []⟩,
  ⟨some 119, .bin .int .eql (.t 117) (.t 118), (some (116, true)), []⟩,
 oq 120 (.pick (.t 116) (.t 119) (.c (.bool false))),
 oq 121 (.mov (.t 120)),
  ⟨some 122, .mov (.t 11), (some (121, true)), []⟩,
  ⟨some 123, .mov (.t 8), (some (121, true)), []⟩,
  ⟨some 124, .bin .int .eql (.t 122) (.t 123), (some (121, true)), []⟩,
 oq 125 (.pick (.t 121) (.t 124) (.c (.bool false))),
 oq 126 (.mov (.t 125)),
  ⟨some 127, .mov (.t 16), (some (126, true)), []⟩,
  ⟨some 128, .mov (.t 15), (some (126, true)), []⟩,
  ⟨some 129, .bin .int .eql (.t 127) (.t 128), (some (126, true)), []⟩,
 oq 130 (.pick (.t 126) (.t 129) (.c (.bool false))),
 oq 6 (.mov (.t 130))] [] false)
  (.ret)))))))))))))))))
def tf306 : TFunc := { np := 3, nt := 131, res := [.tmp 6], own := false, body := tc306 }
noncomputable def S306 (F104 : (List Int) → (List Int) → (Option Bool)) (F315 : Dim → (Option (Int × Err))) (F316 : Dim → (Option ((List Int) × Err))) (F319 : (List Dim) → (Option (Int × Int × Int))) (F320 : (List Dim) → (Option (Int × Int × Err))) (F321 : Dim → (Option ((List (List Int)) × Int × Int))) (F322 : (List (List Int)) → (Option (List Int))) (F323 : Dim → Int → (Option ((List Int) × Err))) (F92 : Err → Int → (Option Bool)) (a0 : (List Dim)) (a1 : Dim) (a2 : Int) : Option Bool :=
  bno (F319 a0) fun y1 =>
  bno (F320 a0) fun y2 =>
  bno (F92 y2.2.2 y1.2.2) fun y3 =>
  bno (F321 a1) fun y4 =>
  bno (F315 a1) fun y5 =>
  bno (F92 y5.2 y4.2.2) fun y6 =>
  jn (σ := (List Int)) (α := Bool) (br (decide (y4.2.2 = (0 : Int)))
  (bno (F322 y4.1) fun y7 =>
  inlO (some y7))
  (inlO (some ([] : List Int)))) fun x8 =>
  bno (F316 a1) fun y9 =>
  bno (F92 y9.2 y4.2.2) fun y10 =>
  jn (σ := Bool) (α := Bool) (br (decide (y4.2.2 = (0 : Int)))
  (br (decide (a2 < (0 : Int)))
  (inlO (some true))
  (inlO (some (decide (((List.length y4.1 : Nat) : Int) ≤ a2)))))
  (inlO (some false))) fun x11 =>
  jn (σ := (Int × (List Int))) (α := Bool) (br x11
  (inlO (some ((1 : Int), ([] : List Int))))
  (jn (σ := (List Int)) (α := (Sum (Int × (List Int)) Bool)) (br (decide (y4.2.2 = (0 : Int)))
  (bno (lookI y4.1 a2) fun y12 =>
  inlO (some y12))
  (inlO (some ([] : List Int)))) fun x13 =>
  inlO (some (y4.2.2, x13)))) fun x14 =>
  bno (F323 a1 a2) fun y15 =>
  bno (F92 y15.2 x14.1) fun y16 =>
  bno (F104 y9.1 x8) fun y17 =>
  bno (F104 y15.1 x14.2) fun y18 =>
  jn (σ := Bool) (α := Bool) (br y3
  (br y6
  (br y10
  (br y16
  (br y17
  (br y18
  (br (decide (y2.1 = y1.1))
  (br (decide (y2.2.1 = y1.2.1))
  (inlO (some (decide (y5.1 = y4.2.1))))
  (inlO (some false)))
  (inlO (some false)))
  (inlO (some false)))
  (inlO (some false)))
  (inlO (some false)))
  (inlO (some false)))
  (inlO (some false)))
  (inlO (some false))) fun x19 =>
  some x19
theorem s306 (F104 : (List Int) → (List Int) → (Option Bool)) (F315 : Dim → (Option (Int × Err))) (F316 : Dim → (Option ((List Int) × Err))) (F319 : (List Dim) → (Option (Int × Int × Int))) (F320 : (List Dim) → (Option (Int × Int × Err))) (F321 : Dim → (Option ((List (List Int)) × Int × Int))) (F322 : (List (List Int)) → (Option (List Int))) (F323 : Dim → Int → (Option ((List Int) × Err))) (F92 : Err → Int → (Option Bool)) (a0 : (List Dim)) (a1 : Dim) (a2 : Int) : tf306.run [⟨104, [(.sl .int), (.sl .int)], .bool, fun x => F104 x.1 x.2, false, []⟩,
  ⟨315, [(.st .dim)], (.tp [.int, .err]), fun x => F315 x, false, []⟩,
  ⟨316, [(.st .dim)], (.tp [(.sl .int), .err]), fun x => F316 x, false, []⟩,
  ⟨319, [(.st .outl)], (.tp [.int, .int, .int]), fun x => F319 x, false, []⟩,
  ⟨320, [(.st .outl)], (.tp [.int, .int, .err]), fun x => F320 x, false, []⟩,
  ⟨321, [(.st .dim)], (.tp [(.sl (.sl .int)), .int, .int]), fun x => F321 x, false, []⟩,
  ⟨322, [(.sl (.sl .int))], (.sl .int), fun x => F322 x, false, []⟩,
  ⟨323, [(.st .dim), .int], (.tp [(.sl .int), .err]), fun x => F323 x.1 x.2, false, []⟩,
  ⟨92, [.err, .int], .bool, fun x => F92 x.1 x.2, false, []⟩] [(.st .outl), (.st .dim), .int] .bool (a0, a1, a2) = S306 F104 F315 F316 F319 F320 F321 F322 F323 F92 a0 a1 a2 := by kernel_rfl
noncomputable def P306 (a0 : (List Dim)) (a1 : Dim) (a2 : Int) : Option Bool := S306 P104 P315 P316 P319 P320 P321 P322 P323 P92 a0 a1 a2
noncomputable def k306 : CSpec := ⟨306, [(.st .outl), (.st .dim), .int], .bool, fun x => P306 x.1 x.2.1 x.2.2, false, []⟩
theorem r306 {S : Seat} (h : Ok1 S 306 tf306) (h104 : Rt S k104) (h315 : Rt S k315) (h316 : Rt S k316) (h319 : Rt S k319) (h320 : Rt S k320) (h321 : Rt S k321) (h322 : Rt S k322) (h323 : Rt S k323) (h92 : Rt S k92) : Rt S k306 := fun x y hy =>
  Ok1.sound h (C := [k104, k315, k316, k319, k320, k321, k322, k323, k92]) (CSound.cons h104 (CSound.cons h315 (CSound.cons h316 (CSound.cons h319 (CSound.cons h320 (CSound.cons h321 (CSound.cons h322 (CSound.cons h323 (CSound.cons h92 CSound.nil))))))))) rfl rfl rfl ((s306 P104 P315 P316 P319 P320 P321 P322 P323 P92 x.1 x.2.1 x.2.2).trans hy) rfl
end Ab
