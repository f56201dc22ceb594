/-
  Functions of the program as typed code, what they come to, and their contracts: written by program (mk.py).
-/
import Derived.Test.YtchidgkpkhloeaaGreatDoorB2
import Derived.KernelRfl
import Derived.Test.YtchidgkpkhloeaaGreatDoorMF
import Derived.Test.YtchidgkpkhloeaaGreatDoorMRu
import Derived.Test.YtchidgkpkhloeaaGreatDoorC1
namespace Ab
open Go
set_option linter.unusedVariables false
set_option maxRecDepth 100000
def tc304 : TCode :=
  .seq (.region [
 oq 4 (.mov (.c (.bool false)))] [] false)
  (.seq (.seq (.regionJ ⟨[.slot 16 .bool], [11, 12, 13, 14, 15], [], []⟩ [
 oq 11 (.mov (.t 0)),
 oq 12 (.bin .int .lss (.t 11) (.c (.int .i64 1))),
 oq 13 (.mov (.t 12)),
  ⟨some 14, .mov (.t 0), (some (13, false)), []⟩,
  ⟨some 15, .bin .int .gtr (.t 14) (.c (.int .i64 11)), (some (13, false)), []⟩,
 oq 16 (.pick (.t 13) (.c (.bool true)) (.t 15))] [] false)
  (.cond (.t 16)
    (.seq (.region [
 oq 4 (.mov (.c (.bool true)))] [] false)
    (.ret))
    (.skip)))
  (.seq (.region [
 oq 17 (.build [.string ⟨#[]⟩, .int .i64 0, .slice none 0 0] [(0, 1, (.c (.string ⟨#[97]⟩)))]),
 oq 5 (.alloc [.string ⟨#[]⟩, .int .i64 0, .slice none 0 0]),
  ⟨none, .store 3 (.t 5) (.t 17), none, []⟩] [] false)
  (.seq (.seq (.region [
 oq 6 (.mov (.c (.int .i64 0)))] [] false)
  (.loop ⟨[.slot 6 .int, .var 5 [.sh .str, .sh .int, .row 35 .member]], [18, 19, 20, 21, 22, 23, 24, 25, 26, 27, 28, 29, 30, 31, 32, 33, 34, 35, 36], [34], []⟩ 0 (.seq (.seq (.region [
 oq 18 (.mov (.t 6)),
 oq 19 (.mov (.t 0)),
 oq 20 (.bin .int .lss (.t 18) (.t 19))] [] false)
    (.cond (.t 20)
      (.skip)
      (.exit 0)))
    (.seq (.block 1 (.region [
 oq 23 (.fa 2 (.t 5)),
  ⟨some 24, .load none (.t 23), none, [0]⟩,
 oq 25 (.mov (.t 6)),
  ⟨some 26, .call false [] 68 [(.t 25)], none, [2]⟩,
 oq 27 (.mov (.t 6)),
  ⟨some 28, .bin .int .add (.t 27) (.c (.int .i64 1)), none, [4]⟩,
 oq 29 (.mov (.t 0)),
  ⟨some 30, .bin .int .rem (.t 28) (.t 29), none, [5, 6]⟩,
  ⟨some 31, .call false [] 68 [(.t 30)], none, [7, 3]⟩,
  ⟨some 32, .bin .str .add (.t 31) (.c (.string ⟨#[43, 49]⟩)), none, [8]⟩,
  ⟨some 33, .build [.string ⟨#[]⟩, .int .i64 0, .int .i64 0, .string ⟨#[]⟩] [(0, 1, (.t 26)), (1, 1, (.c (.int .i64 (-1)))), (3, 1, (.t 32))], none, [3, 9]⟩,
  ⟨some 34, .bslice false 4 [.string ⟨#[]⟩, .int .i64 0, .int .i64 0, .string ⟨#[]⟩] 1 [(0, (.t 33))], none, [10]⟩,
  ⟨some 35, .app 4 (.t 24) (.t 34), none, [1, 11, 8]⟩,
  ⟨some 36, .fa 2 (.t 5), none, [0, 1, 2, 3, 4, 5, 6, 7, 8, 9, 10, 11, 12]⟩,
  ⟨none, .store 1 (.t 36) (.t 35), none, [13, 12, 12, 0, 1, 2, 3, 4, 5, 6, 7, 8, 9, 10, 11, 12]⟩] [.int, .int, .int, .int, .int, .int, .int, .int, .int, .int, .int, .member, .member] true))
    (.region [
 oq 21 (.mov (.t 6)),
 oq 22 (.bin .int .add (.t 21) (.c (.int .i64 1))),
 oq 6 (.mov (.t 22))] [] false)))))
  (.seq (.seq (.region [
 oq 37 (.mov (.t 1))] [] false)
  (.condJ ⟨[.rowH 35 .member], [38, 39, 40, 41, 42, 43], [], []⟩ (.t 37)
    (.region [
 oq 38 (.fa 2 (.t 5)),
 oq 39 (.load none (.t 38)),
 oq 40 (.mov (.t 0)),
 oq 41 (.bin .int .sub (.t 40) (.c (.int .i64 1))),
 oq 42 (.ia 4 (.t 39) (.t 41)),
 oq 43 (.fa 3 (.t 42)),
  ⟨none, .store 1 (.t 43) (.c (.string ⟨#[]⟩)), none, []⟩] [] false)
    (.skip)))
  (.seq (.region [
 oq 45 (.load (some 3) (.t 5)),
 oq 46 (.call false [] 315 [(.t 45)]),
 oq 44 (.mov (.t 46)),
 oq 47 (.ext (.t 44) 0),
 oq 48 (.ext (.t 44) 1),
 oq 7 (.mov (.t 47)),
 oq 8 (.mov (.t 48))] [] false)
  (.seq (.seq (.region [
 oq 49 (.mov (.t 1))] [] false)
  (.cond (.t 49)
    (.seq (.region [
 oq 51 (.load (some 3) (.t 5)),
 oq 52 (.call true [] 316 [(.t 51)]),
 oq 50 (.mov (.t 52)),
 oq 53 (.ext (.t 50) 0),
 oq 54 (.ext (.t 50) 1),
 oq 9 (.mov (.t 53)),
 oq 10 (.mov (.t 54))] [] false)
    (.seq (.regionJ ⟨[.slot 4 .bool], [55, 56, 57, 58, 59, 60, 61, 62, 63, 64, 65, 66, 67, 68, 69, 70, 71, 72, 73, 74], [], []⟩ [
 oq 55 (.mov (.t 8)),
 oq 56 (.eqn false false (.t 55)),
 oq 57 (.mov (.t 56)),
  ⟨some 58, .mov (.t 10), (some (57, true)), []⟩,
  ⟨some 59, .eqn false false (.t 58), (some (57, true)), []⟩,
 oq 60 (.pick (.t 57) (.t 59) (.c (.bool false))),
 oq 61 (.mov (.t 60)),
  ⟨some 62, .mov (.t 9), (some (61, true)), []⟩,
  ⟨some 63, .len false (.t 62), (some (61, true)), []⟩,
  ⟨some 64, .mov (.t 0), (some (61, true)), []⟩,
  ⟨some 65, .bin .int .eql (.t 63) (.t 64), (some (61, true)), []⟩,
 oq 66 (.pick (.t 61) (.t 65) (.c (.bool false))),
 oq 67 (.mov (.t 66)),
  ⟨some 68, .mov (.t 9), (some (67, true)), []⟩,
  ⟨some 69, .ia 1 (.t 68) (.c (.int .i64 0)), (some (67, true)), []⟩,
  ⟨some 70, .load none (.t 69), (some (67, true)), []⟩,
  ⟨some 71, .mov (.t 0), (some (67, true)), []⟩,
  ⟨some 72, .bin .int .sub (.t 71) (.c (.int .i64 1)), (some (67, true)), []⟩,
  ⟨some 73, .bin .int .eql (.t 70) (.t 72), (some (67, true)), []⟩,
 oq 74 (.pick (.t 67) (.t 73) (.c (.bool false))),
 oq 4 (.mov (.t 74))] [] false)
    (.ret)))
    (.skip)))
  (.seq (.regionJ ⟨[.slot 4 .bool], [75, 76, 77, 78, 79, 80], [], []⟩ [
 oq 75 (.mov (.t 8)),
 oq 76 (.call false [] 92 [(.t 75), (.c (.int .i64 8))]),
 oq 77 (.mov (.t 76)),
  ⟨some 78, .mov (.t 7), (some (77, true)), []⟩,
  ⟨some 79, .bin .int .eql (.t 78) (.c (.int .i64 0)), (some (77, true)), []⟩,
 oq 80 (.pick (.t 77) (.t 79) (.c (.bool false))),
 oq 4 (.mov (.t 80))] [] false)
  (.ret))))))))
def tf304 : TFunc := { np := 2, nt := 81, res := [.tmp 4], own := false, body := tc304 }
noncomputable def S304_L1 (F68 : Int → (Option ByteArray)) (a0 : Int) (x2 : (Int × (ByteArray × Int × (List Member)))) : Option (LR (Int × (ByteArray × Int × (List Member))) Bool) :=
  br (decide (x2.1 < a0))
  (bno (F68 x2.1) fun y3 =>
  ck (decide (¬ a0 = 0)) <|
  bno (F68 (Int.tmod (wi (x2.1 + (1 : Int))) a0)) fun y4 =>
  ck (decide (ByteArray.size y4 + ByteArray.size (⟨#[43, 49]⟩ : ByteArray) ≤ 9223372036854775807)) <|
  ck (decide (List.length x2.2.2.2 + List.length ([Member.mk y3 (-1 : Int) (0 : Int) (y4 ++ (⟨#[43, 49]⟩ : ByteArray))] : List Member) ≤ roomA)) <|
  nxO (some (wi (x2.1 + (1 : Int)), (x2.2.1, x2.2.2.1, x2.2.2.2 ++ ([Member.mk y3 (-1 : Int) (0 : Int) (y4 ++ (⟨#[43, 49]⟩ : ByteArray))] : List Member)))))
  (dnO (some (x2.1, (x2.2.1, x2.2.2.1, x2.2.2.2))))
noncomputable def S304 (F315 : Dim → (Option (Int × Err))) (F316 : Dim → (Option ((List Int) × Err))) (F68 : Int → (Option ByteArray)) (F92 : Err → Int → (Option Bool)) (a0 : Int) (a1 : Bool) : Option Bool :=
  jn (σ := Bool) (α := Bool) (br (decide (a0 < (1 : Int)))
  (inlO (some true))
  (inlO (some (decide ((11 : Int) < a0))))) fun x1 =>
  br x1
  (some true)
  (lp (S304_L1 F68 a0) ((0 : Int), ((⟨#[97]⟩ : ByteArray), (0 : Int), ([] : List Member))) fun x5 =>
  jn (σ := (List Member)) (α := Bool) (br a1
  (ck (decide (0 ≤ wi (a0 - (1 : Int)) ∧ wi (a0 - (1 : Int)) < ((List.length x5.2.2.2 : Nat) : Int))) <|
  bno ((x5.2.2.2)[(Int.toNat (wi (a0 - (1 : Int))))]?) fun y6 =>
  inlO (some (List.set x5.2.2.2 (Int.toNat (wi (a0 - (1 : Int)))) (Member.mk (Member.name y6) (Member.parent y6) (Member.sign y6) (⟨#[]⟩ : ByteArray)))))
  (inlO (some x5.2.2.2))) fun x7 =>
  bno (F315 (Dim.mk x5.2.1 x5.2.2.1 x7)) fun y8 =>
  br a1
  (bno (F316 (Dim.mk x5.2.1 x5.2.2.1 x7)) fun y9 =>
  jn (σ := Bool) (α := Bool) (br (Err.isNil y8.2)
  (br (Err.isNil y9.2)
  (br (decide (((List.length y9.1 : Nat) : Int) = a0))
  (bno (lookI y9.1 (0 : Int)) fun y10 =>
  inlO (some (decide (y10 = (wi (a0 - (1 : Int)))))))
  (inlO (some false)))
  (inlO (some false)))
  (inlO (some false))) fun x11 =>
  some x11)
  (jn (σ := Bool) (α := Bool) (bno (F92 y8.2 (8 : Int)) fun y12 =>
  br y12
  (inlO (some (decide (y8.1 = (0 : Int)))))
  (inlO (some false))) fun x13 =>
  some x13))
theorem s304 (F315 : Dim → (Option (Int × Err))) (F316 : Dim → (Option ((List Int) × Err))) (F68 : Int → (Option ByteArray)) (F92 : Err → Int → (Option Bool)) (a0 : Int) (a1 : Bool) : tf304.run [⟨315, [(.st .dim)], (.tp [.int, .err]), fun x => F315 x, false, []⟩,
  ⟨316, [(.st .dim)], (.tp [(.sl .int), .err]), fun x => F316 x, false, []⟩,
  ⟨68, [.int], .str, fun x => F68 x, false, []⟩,
  ⟨92, [.err, .int], .bool, fun x => F92 x.1 x.2, false, []⟩] [.int, .bool] .bool (a0, a1) = S304 F315 F316 F68 F92 a0 a1 := by kernel_rfl
noncomputable def P304 (a0 : Int) (a1 : Bool) : Option Bool := S304 P315 P316 P68 P92 a0 a1
noncomputable def k304 : CSpec := ⟨304, [.int, .bool], .bool, fun x => P304 x.1 x.2, false, []⟩
theorem r304 {S : Seat} (h : Ok1 S 304 tf304) (h315 : Rt S k315) (h316 : Rt S k316) (h68 : Rt S k68) (h92 : Rt S k92) : Rt S k304 := fun x y hy =>
  Ok1.sound h (C := [k315, k316, k68, k92]) (CSound.cons h315 (CSound.cons h316 (CSound.cons h68 (CSound.cons h92 CSound.nil)))) rfl rfl rfl ((s304 P315 P316 P68 P92 x.1 x.2).trans hy) rfl
end Ab
