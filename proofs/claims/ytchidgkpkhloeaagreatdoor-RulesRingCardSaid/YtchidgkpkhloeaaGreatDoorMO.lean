/-
  Functions of the program as typed code, what they come to, and their contracts: written by program (mk.py).
-/
import Derived.Test.YtchidgkpkhloeaaGreatDoorB2
import Derived.KernelRfl
namespace Ab
open Go
set_option linter.unusedVariables false
set_option maxRecDepth 100000
def tc67 : TCode :=
  .seq (.region [
 oq 2 (.mov (.c (.bool false)))] [] false)
  (.seq (.regionJ ⟨[.slot 2 .bool], [3, 4, 5, 6, 7, 8], [], []⟩ [
 oq 3 (.mov (.t 0)),
 oq 4 (.bin .int .lss (.t 3) (.c (.int .u8 97))),
 oq 5 (.mov (.t 4)),
  ⟨some 6, .mov (.t 0), (some (5, false)), []⟩,
  ⟨some 7, .bin .int .gtr (.t 6) (.c (.int .u8 122)), (some (5, false)), []⟩,
 oq 8 (.pick (.t 5) (.c (.bool true)) (.t 7)),
 oq 2 (.mov (.t 8))] [] false)
  (.ret))
def tf67 : TFunc := { np := 1, nt := 9, res := [.tmp 2], own := false, body := tc67 }
noncomputable def S67 (a0 : Int) : Option Bool :=
  jn (σ := Bool) (α := Bool) (br (decide (a0 < (97 : Int)))
  (inlO (some true))
  (inlO (some (decide ((122 : Int) < a0))))) fun x1 =>
  some x1
theorem s67 (a0 : Int) : tf67.run [] [.u8] .bool a0 = S67 a0 := by kernel_rfl
noncomputable def P67 (a0 : Int) : Option Bool := S67 a0
noncomputable def k67 : CSpec := ⟨67, [.u8], .bool, fun x => P67 x, false, []⟩
theorem r67 {S : Seat} (h : Ok1 S 67 tf67) : Rt S k67 := fun x y hy =>
  Ok1.sound h (C := []) CSound.nil rfl rfl rfl ((s67 x).trans hy) rfl
def tc75 : TCode :=
  .seq (.region [
 oq 4 (.mov (.c (.int .i64 0)))] [] false)
  (.seq (.seq (.region [
 oq 6 (.mov (.t 0)),
 oq 7 (.len false (.t 6)),
 oq 8 (.mov (.c (.int .i64 0)))] [] false)
  (.loop ⟨[.slot 8 .int], [5, 9, 10, 11, 12, 13, 14, 15, 16, 18], [], []⟩ 0 (.seq (.region [
 oq 9 (.bin .int .lss (.t 8) (.t 7))] [] false)
    (.seq (.cond (.t 9)
      (.skip)
      (.exit 0))
    (.seq (.block 1 (.seq (.region [
 oq 10 (.mov (.t 8)),
 oq 5 (.mov (.t 10))] [] false)
      (.seq (.region [
 oq 11 (.mov (.t 1)),
 oq 12 (.mov (.t 0)),
 oq 13 (.mov (.t 5)),
 oq 14 (.ia 1 (.t 12) (.t 13)),
 oq 15 (.load none (.t 14)),
 oq 16 (.calld false (.t 11) [(.t 15)])] [] false)
      (.cond (.t 16)
        (.seq (.region [
 oq 17 (.mov (.t 5)),
 oq 4 (.mov (.t 17))] [] false)
        (.ret))
        (.skip)))))
    (.region [
 oq 18 (.bin .int .add (.t 8) (.c (.int .i64 1))),
 oq 8 (.mov (.t 18))] [] false))))))
  (.seq (.region [
 oq 4 (.mov (.c (.int .i64 (-1))))] [] false)
  (.ret)))
def tf75 : TFunc := { np := 2, nt := 19, res := [.tmp 4], own := false, body := tc75 }
noncomputable def S75_67_L1 (F67 : Int → (Option Bool)) (a0 : (List UInt8)) (x1 : Int) : Option (LR Int Int) :=
  br (decide (x1 < ((List.length a0 : Nat) : Int)))
  (bno (lookI a0 x1) fun y2 =>
  bno (F67 ((UInt8.toNat y2 : Nat) : Int)) fun y3 =>
  br y3
  (finO (some x1))
  (nxO (some (wi (x1 + (1 : Int))))))
  (dnO (some x1))
noncomputable def S75_67 (F67 : Int → (Option Bool)) (a0 : (List UInt8)) : Option Int :=
  lp (S75_67_L1 F67 a0) (0 : Int) fun x4 =>
  some (-1 : Int)
theorem s75_67 (F67 : Int → (Option Bool)) (a0 : (List UInt8)) : tf75.run [⟨67, [.u8], .bool, fun x => F67 x, false, []⟩] [(.sl .u8), (.fnc 67 [])] .int (a0, ()) = S75_67 F67 a0 := by kernel_rfl
noncomputable def P75_67 (a0 : (List UInt8)) : Option Int := S75_67 P67 a0
noncomputable def k75_67 : CSpec := ⟨75, [(.sl .u8), (.fnc 67 [])], .int, fun x => P75_67 x.1, false, []⟩
theorem r75_67 {S : Seat} (h : Ok1 S 75 tf75) (h67 : Rt S k67) : Rt S k75_67 := fun x y hy =>
  Ok1.sound h (C := [k67]) (CSound.cons h67 CSound.nil) rfl rfl rfl ((s75_67 P67 x.1).trans hy) rfl
def tc66 : TCode :=
  .seq (.region [
 oq 4 (.mov (.c (.bool false)))] [] false)
  (.seq (.region [
 oq 5 (.mov (.t 0)),
 oq 6 (.mov (.t 1)),
 oq 7 (.call false [] 75 [(.t 5), (.t 6)]),
 oq 8 (.bin .int .geq (.t 7) (.c (.int .i64 0))),
 oq 4 (.mov (.t 8))] [] false)
  (.ret))
def tf66 : TFunc := { np := 2, nt := 9, res := [.tmp 4], own := false, body := tc66 }
noncomputable def S66_67 (F75_67 : (List UInt8) → (Option Int)) (a0 : (List UInt8)) : Option Bool :=
  bno (F75_67 a0) fun y1 =>
  some (decide ((0 : Int) ≤ y1))
theorem s66_67 (F75_67 : (List UInt8) → (Option Int)) (a0 : (List UInt8)) : tf66.run [⟨75, [(.sl .u8), (.fnc 67 [])], .int, fun x => F75_67 x.1, false, []⟩] [(.sl .u8), (.fnc 67 [])] .bool (a0, ()) = S66_67 F75_67 a0 := by kernel_rfl
noncomputable def P66_67 (a0 : (List UInt8)) : Option Bool := S66_67 P75_67 a0
noncomputable def k66_67 : CSpec := ⟨66, [(.sl .u8), (.fnc 67 [])], .bool, fun x => P66_67 x.1, false, []⟩
theorem r66_67 {S : Seat} (h : Ok1 S 66 tf66) (h75_67 : Rt S k75_67) : Rt S k66_67 := fun x y hy =>
  Ok1.sound h (C := [k75_67]) (CSound.cons h75_67 CSound.nil) rfl rfl rfl ((s66_67 P75_67 x.1).trans hy) rfl
def tc41 : TCode :=
  .seq (.region [
 oq 2 (.mov (.c (.nilIface)))] [] false)
  (.seq (.seq (.regionJ ⟨[.slot 14 .bool], [3, 4, 5, 6, 7, 8, 9, 10, 11, 12, 13], [], []⟩ [
 oq 3 (.mov (.t 0)),
 oq 4 (.bin .str .eql (.t 3) (.c (.string ⟨#[]⟩))),
 oq 5 (.mov (.t 4)),
  ⟨some 6, .mov (.t 0), (some (5, false)), []⟩,
  ⟨some 7, .len true (.t 6), (some (5, false)), []⟩,
  ⟨some 8, .bin .int .gtr (.t 7) (.c (.int .i64 8)), (some (5, false)), []⟩,
 oq 9 (.pick (.t 5) (.c (.bool true)) (.t 8)),
 oq 10 (.mov (.t 9)),
  ⟨some 11, .mov (.t 0), (some (10, false)), []⟩,
  ⟨some 12, .cvs (.t 11), (some (10, false)), []⟩,
  ⟨some 13, .call false [] 66 [(.t 12), (.f 67)], (some (10, false)), []⟩,
 oq 14 (.pick (.t 10) (.c (.bool true)) (.t 13))] [] false)
  (.cond (.t 14)
    (.seq (.region [
 oq 15 (.ifc 1 (.c (.int .i64 2))),
 oq 2 (.mov (.t 15))] [] false)
    (.ret))
    (.skip)))
  (.seq (.region [
 oq 2 (.mov (.c (.nilIface)))] [] false)
  (.ret)))
def tf41 : TFunc := { np := 1, nt := 16, res := [.tmp 2], own := false, body := tc41 }
noncomputable def S41 (F66_67 : (List UInt8) → (Option Bool)) (a0 : ByteArray) : Option Err :=
  jn (σ := Bool) (α := Err) (br (decide (a0 = (⟨#[]⟩ : ByteArray)))
  (inlO (some true))
  (br (decide ((8 : Int) < ((ByteArray.size a0 : Nat) : Int)))
  (inlO (some true))
  (bno (F66_67 ((ByteArray.data a0).toList)) fun y1 =>
  inlO (some y1)))) fun x2 =>
  br x2
  (some (Err.no (2 : Int)))
  (some Err.nil)
theorem s41 (F66_67 : (List UInt8) → (Option Bool)) (a0 : ByteArray) : tf41.run [⟨66, [(.sl .u8), (.fnc 67 [])], .bool, fun x => F66_67 x.1, false, []⟩] [.str] .err a0 = S41 F66_67 a0 := by kernel_rfl
noncomputable def P41 (a0 : ByteArray) : Option Err := S41 P66_67 a0
noncomputable def k41 : CSpec := ⟨41, [.str], .err, fun x => P41 x, false, []⟩
theorem r41 {S : Seat} (h : Ok1 S 41 tf41) (h66_67 : Rt S k66_67) : Rt S k41 := fun x y hy =>
  Ok1.sound h (C := [k66_67]) (CSound.cons h66_67 CSound.nil) rfl rfl rfl ((s41 P66_67 x).trans hy) rfl
def tc64 : TCode :=
  .seq (.region [
 oq 2 (.box (.t 0)),
 oq 3 (.mov (.c (.bool false)))] [] false)
  (.seq (.region [
 oq 4 (.fa 0 (.t 2)),
 oq 5 (.load none (.t 4)),
 oq 6 (.load none (.t 1)),
 oq 7 (.bin .str .eql (.t 5) (.t 6)),
 oq 3 (.mov (.t 7))] [] false)
  (.ret))
def tf64 : TFunc := { np := 2, nt := 8, res := [.tmp 3], own := false, body := tc64 }
noncomputable def S64 (a0 : Member) (a1 : ByteArray) : Option Bool :=
  some (decide ((Member.name a0) = a1))
theorem s64 (a0 : Member) (a1 : ByteArray) : tf64.run [] [(.st .member), (.bx .str)] .bool (a0, a1) = S64 a0 a1 := by kernel_rfl
noncomputable def P64 (a0 : Member) (a1 : ByteArray) : Option Bool := S64 a0 a1
noncomputable def k64 : CSpec := ⟨64, [(.st .member), (.bx .str)], .bool, fun x => P64 x.1 x.2, false, []⟩
theorem r64 {S : Seat} (h : Ok1 S 64 tf64) : Rt S k64 := fun x y hy =>
  Ok1.sound h (C := []) CSound.nil rfl rfl rfl ((s64 x.1 x.2).trans hy) rfl
def tc63 : TCode :=
  .seq (.region [
 oq 4 (.mov (.c (.int .i64 0)))] [] false)
  (.seq (.seq (.region [
 oq 6 (.mov (.t 0)),
 oq 7 (.len false (.t 6)),
 oq 8 (.mov (.c (.int .i64 0)))] [] false)
  (.loop ⟨[.slot 8 .int], [5, 9, 10, 11, 12, 13, 14, 15, 16, 18], [], []⟩ 0 (.seq (.region [
 oq 9 (.bin .int .lss (.t 8) (.t 7))] [] false)
    (.seq (.cond (.t 9)
      (.skip)
      (.exit 0))
    (.seq (.block 1 (.seq (.region [
 oq 10 (.mov (.t 8)),
 oq 5 (.mov (.t 10))] [] false)
      (.seq (.region [
 oq 11 (.mov (.t 1)),
 oq 12 (.mov (.t 0)),
 oq 13 (.mov (.t 5)),
 oq 14 (.ia 4 (.t 12) (.t 13)),
 oq 15 (.load (some 4) (.t 14)),
 oq 16 (.calld false (.t 11) [(.t 15)])] [] false)
      (.cond (.t 16)
        (.seq (.region [
 oq 17 (.mov (.t 5)),
 oq 4 (.mov (.t 17))] [] false)
        (.ret))
        (.skip)))))
    (.region [
 oq 18 (.bin .int .add (.t 8) (.c (.int .i64 1))),
 oq 8 (.mov (.t 18))] [] false))))))
  (.seq (.region [
 oq 4 (.mov (.c (.int .i64 (-1))))] [] false)
  (.ret)))
def tf63 : TFunc := { np := 2, nt := 19, res := [.tmp 4], own := false, body := tc63 }
noncomputable def S63_64_L1 (F64 : Member → ByteArray → (Option Bool)) (a0 : (List Member)) (a1 : ByteArray) (x1 : Int) : Option (LR Int Int) :=
  br (decide (x1 < ((List.length a0 : Nat) : Int)))
  (bno (lookI a0 x1) fun y2 =>
  bno (F64 y2 a1) fun y3 =>
  br y3
  (finO (some x1))
  (nxO (some (wi (x1 + (1 : Int))))))
  (dnO (some x1))
noncomputable def S63_64 (F64 : Member → ByteArray → (Option Bool)) (a0 : (List Member)) (a1 : ByteArray) : Option Int :=
  lp (S63_64_L1 F64 a0 a1) (0 : Int) fun x4 =>
  some (-1 : Int)
theorem s63_64 (F64 : Member → ByteArray → (Option Bool)) (a0 : (List Member)) (a1 : ByteArray) : tf63.run [⟨64, [(.st .member), (.bx .str)], .bool, fun x => F64 x.1 x.2, false, []⟩] [(.sl .member), (.fnc 64 [(.bx .str)])] .int (a0, a1) = S63_64 F64 a0 a1 := by kernel_rfl
noncomputable def P63_64 (a0 : (List Member)) (a1 : ByteArray) : Option Int := S63_64 P64 a0 a1
noncomputable def k63_64 : CSpec := ⟨63, [(.sl .member), (.fnc 64 [(.bx .str)])], .int, fun x => P63_64 x.1 x.2, false, []⟩
theorem r63_64 {S : Seat} (h : Ok1 S 63 tf63) (h64 : Rt S k64) : Rt S k63_64 := fun x y hy =>
  Ok1.sound h (C := [k64]) (CSound.cons h64 CSound.nil) rfl rfl rfl ((s63_64 P64 x.1 x.2).trans hy) rfl
def tc37 : TCode :=
  .seq (.region [
 oq 3 (.box (.t 1)),
 oq 4 (.mov (.c (.int .i64 0)))] [] false)
  (.seq (.region [
 oq 5 (.mov (.t 0)),
 oq 6 (.mkfn 64 [(.t 3)]),
 oq 7 (.call false [] 63 [(.t 5), (.t 6)]),
 oq 4 (.mov (.t 7))] [] false)
  (.ret))
def tf37 : TFunc := { np := 2, nt := 8, res := [.tmp 4], own := false, body := tc37 }
noncomputable def S37 (F63_64 : (List Member) → ByteArray → (Option Int)) (a0 : (List Member)) (a1 : ByteArray) : Option Int :=
  bno (F63_64 a0 a1) fun y1 =>
  some y1
theorem s37 (F63_64 : (List Member) → ByteArray → (Option Int)) (a0 : (List Member)) (a1 : ByteArray) : tf37.run [⟨63, [(.sl .member), (.fnc 64 [(.bx .str)])], .int, fun x => F63_64 x.1 x.2, false, []⟩] [(.sl .member), .str] .int (a0, a1) = S37 F63_64 a0 a1 := by kernel_rfl
noncomputable def P37 (a0 : (List Member)) (a1 : ByteArray) : Option Int := S37 P63_64 a0 a1
noncomputable def k37 : CSpec := ⟨37, [(.sl .member), .str], .int, fun x => P37 x.1 x.2, false, []⟩
theorem r37 {S : Seat} (h : Ok1 S 37 tf37) (h63_64 : Rt S k63_64) : Rt S k37 := fun x y hy =>
  Ok1.sound h (C := [k63_64]) (CSound.cons h63_64 CSound.nil) rfl rfl rfl ((s37 P63_64 x.1 x.2).trans hy) rfl
def tc42 : TCode :=
  .seq (.region [
 oq 4 (.mov (.c (.nilIface)))] [] false)
  (.seq (.region [
 oq 7 (.mov (.t 0)),
 oq 8 (.mov (.t 1)),
 oq 9 (.ia 4 (.t 7) (.t 8)),
 oq 10 (.load (some 4) (.t 9)),
 oq 5 (.alloc [.string ⟨#[]⟩, .int .i64 0, .int .i64 0, .string ⟨#[]⟩]),
  ⟨none, .store 4 (.t 5) (.t 10), none, []⟩] [] false)
  (.seq (.seq (.region [
 oq 11 (.fa 0 (.t 5)),
 oq 12 (.load none (.t 11)),
 oq 13 (.call false [] 41 [(.t 12)]),
 oq 6 (.mov (.t 13))] [] false)
  (.seq (.region [
 oq 14 (.mov (.t 6)),
 oq 15 (.eqn false true (.t 14))] [] false)
  (.cond (.t 15)
    (.seq (.region [
 oq 16 (.mov (.t 6)),
 oq 4 (.mov (.t 16))] [] false)
    (.ret))
    (.skip))))
  (.seq (.block 0 (.seq (.region [
 oq 18 (.mov (.t 0)),
 oq 19 (.mov (.t 1)),
  ⟨some 20, .slc 4 (.t 18) none (some (.t 19)), none, [0, 1]⟩,
 oq 21 (.fa 0 (.t 5)),
  ⟨some 22, .load none (.t 21), none, [3]⟩,
  ⟨some 23, .call false [] 37 [(.t 20), (.t 22)], none, [2, 4]⟩,
  ⟨some 24, .bin .int .geq (.t 23) (.c (.int .i64 0)), none, [5]⟩,
  ⟨some 17, .mov (.t 24), none, [6, 5]⟩] [] true)
    (.cond (.t 17)
      (.seq (.region [
 oq 25 (.ifc 1 (.c (.int .i64 7))),
 oq 4 (.mov (.t 25))] [] false)
      (.ret))
      (.seq (.regionJ ⟨[.slot 26 .bool], [27, 28, 29, 30, 31, 32, 33, 34, 35], [], []⟩ [
 oq 27 (.fa 1 (.t 5)),
 oq 28 (.load none (.t 27)),
 oq 29 (.bin .int .lss (.t 28) (.c (.int .i64 (-1)))),
 oq 30 (.mov (.t 29)),
  ⟨some 31, .fa 1 (.t 5), (some (30, false)), []⟩,
  ⟨some 32, .load none (.t 31), (some (30, false)), []⟩,
  ⟨some 33, .mov (.t 1), (some (30, false)), []⟩,
  ⟨some 34, .bin .int .geq (.t 32) (.t 33), (some (30, false)), []⟩,
 oq 35 (.pick (.t 30) (.c (.bool true)) (.t 34)),
 oq 26 (.mov (.t 35))] [] false)
      (.cond (.t 26)
        (.seq (.region [
 oq 36 (.ifc 1 (.c (.int .i64 1))),
 oq 4 (.mov (.t 36))] [] false)
        (.ret))
        (.seq (.regionJ ⟨[.slot 37 .bool], [38, 39, 40, 41, 42, 43, 44, 45, 46, 47, 48, 49], [], []⟩ [
 oq 38 (.fa 1 (.t 5)),
 oq 39 (.load none (.t 38)),
 oq 40 (.bin .int .geq (.t 39) (.c (.int .i64 0))),
 oq 41 (.mov (.t 40)),
  ⟨some 42, .mov (.t 0), (some (41, true)), []⟩,
  ⟨some 43, .fa 1 (.t 5), (some (41, true)), []⟩,
  ⟨some 44, .load none (.t 43), (some (41, true)), []⟩,
  ⟨some 45, .ia 4 (.t 42) (.t 44), (some (41, true)), []⟩,
  ⟨some 46, .fa 3 (.t 45), (some (41, true)), []⟩,
  ⟨some 47, .load none (.t 46), (some (41, true)), []⟩,
  ⟨some 48, .bin .str .neq (.t 47) (.c (.string ⟨#[]⟩)), (some (41, true)), []⟩,
 oq 49 (.pick (.t 41) (.t 48) (.c (.bool false))),
 oq 37 (.mov (.t 49))] [] false)
        (.cond (.t 37)
          (.seq (.region [
 oq 50 (.ifc 1 (.c (.int .i64 6))),
 oq 4 (.mov (.t 50))] [] false)
          (.ret))
          (.seq (.regionJ ⟨[.slot 51 .bool], [52, 53, 54, 55, 56, 57, 58, 59], [], []⟩ [
 oq 52 (.fa 2 (.t 5)),
 oq 53 (.load none (.t 52)),
 oq 54 (.bin .int .lss (.t 53) (.c (.int .i64 (-1)))),
 oq 55 (.mov (.t 54)),
  ⟨some 56, .fa 2 (.t 5), (some (55, false)), []⟩,
  ⟨some 57, .load none (.t 56), (some (55, false)), []⟩,
  ⟨some 58, .bin .int .gtr (.t 57) (.c (.int .i64 1)), (some (55, false)), []⟩,
 oq 59 (.pick (.t 55) (.c (.bool true)) (.t 58)),
 oq 51 (.mov (.t 59))] [] false)
          (.cond (.t 51)
            (.seq (.region [
 oq 60 (.ifc 1 (.c (.int .i64 1))),
 oq 4 (.mov (.t 60))] [] false)
            (.ret))
            (.seq (.region [
 oq 62 (.fa 3 (.t 5)),
 oq 63 (.load none (.t 62)),
 oq 64 (.len true (.t 63)),
 oq 65 (.bin .int .gtr (.t 64) (.c (.int .i64 100))),
 oq 61 (.mov (.t 65))] [] false)
            (.cond (.t 61)
              (.seq (.region [
 oq 66 (.ifc 1 (.c (.int .i64 4))),
 oq 4 (.mov (.t 66))] [] false)
              (.ret))
              (.skip))))))))))))
  (.seq (.region [
 oq 4 (.mov (.c (.nilIface)))] [] false)
  (.ret)))))
def tf42 : TFunc := { np := 2, nt := 67, res := [.tmp 4], own := false, body := tc42 }
noncomputable def S42 (F37 : (List Member) → ByteArray → (Option Int)) (F41 : ByteArray → (Option Err)) (a0 : (List Member)) (a1 : Int) : Option Err :=
  bno (lookI a0 a1) fun y1 =>
  bno (F41 (Member.name y1)) fun y2 =>
  br (!(Err.isNil y2))
  (some y2)
  (ck (decide (0 ≤ (0 : Int) ∧ (0 : Int) ≤ a1 ∧ a1 ≤ ((List.length a0 : Nat) : Int))) <|
  bno (F37 (List.take (Int.toNat a1 - Int.toNat (0 : Int)) (List.drop (Int.toNat (0 : Int)) a0)) (Member.name y1)) fun y3 =>
  br (decide ((0 : Int) ≤ y3))
  (some (Err.no (7 : Int)))
  (jn (σ := Bool) (α := Err) (br (decide ((Member.parent y1) < (-1 : Int)))
  (inlO (some true))
  (inlO (some (decide (a1 ≤ (Member.parent y1)))))) fun x4 =>
  br x4
  (some (Err.no (1 : Int)))
  (jn (σ := Bool) (α := Err) (br (decide ((0 : Int) ≤ (Member.parent y1)))
  (bno (lookI a0 (Member.parent y1)) fun y5 =>
  inlO (some (decide (¬ (Member.formula y5) = (⟨#[]⟩ : ByteArray)))))
  (inlO (some false))) fun x6 =>
  br x6
  (some (Err.no (6 : Int)))
  (jn (σ := Bool) (α := Err) (br (decide ((Member.sign y1) < (-1 : Int)))
  (inlO (some true))
  (inlO (some (decide ((1 : Int) < (Member.sign y1)))))) fun x7 =>
  br x7
  (some (Err.no (1 : Int)))
  (br (decide ((100 : Int) < ((ByteArray.size (Member.formula y1) : Nat) : Int)))
  (some (Err.no (4 : Int)))
  (some Err.nil))))))
theorem s42 (F37 : (List Member) → ByteArray → (Option Int)) (F41 : ByteArray → (Option Err)) (a0 : (List Member)) (a1 : Int) : tf42.run [⟨37, [(.sl .member), .str], .int, fun x => F37 x.1 x.2, false, []⟩,
  ⟨41, [.str], .err, fun x => F41 x, false, []⟩] [(.sl .member), .int] .err (a0, a1) = S42 F37 F41 a0 a1 := by kernel_rfl
noncomputable def P42 (a0 : (List Member)) (a1 : Int) : Option Err := S42 P37 P41 a0 a1
noncomputable def k42 : CSpec := ⟨42, [(.sl .member), .int], .err, fun x => P42 x.1 x.2, false, []⟩
theorem r42 {S : Seat} (h : Ok1 S 42 tf42) (h37 : Rt S k37) (h41 : Rt S k41) : Rt S k42 := fun x y hy =>
  Ok1.sound h (C := [k37, k41]) (CSound.cons h37 (CSound.cons h41 CSound.nil)) rfl rfl rfl ((s42 P37 P41 x.1 x.2).trans hy) rfl
def tc15 : TCode :=
  .seq (.region [
 oq 1 (.box (.t 0)),
 oq 2 (.mov (.c (.int .i64 0))),
 oq 3 (.mov (.c (.nilIface)))] [] false)
  (.seq (.seq (.region [
 oq 7 (.fa 0 (.t 1)),
 oq 8 (.load none (.t 7)),
 oq 9 (.call false [] 41 [(.t 8)]),
 oq 4 (.mov (.t 9))] [] false)
  (.seq (.region [
 oq 10 (.mov (.t 4)),
 oq 11 (.eqn false true (.t 10))] [] false)
  (.cond (.t 11)
    (.seq (.region [
 oq 12 (.mov (.t 4)),
 oq 2 (.mov (.c (.int .i64 (-1)))),
 oq 3 (.mov (.t 12))] [] false)
    (.ret))
    (.skip))))
  (.seq (.block 0 (.seq (.regionJ ⟨[.slot 13 .bool], [14, 15, 16, 17, 18, 19, 20, 21], [], []⟩ [
 oq 14 (.fa 1 (.t 1)),
 oq 15 (.load none (.t 14)),
 oq 16 (.bin .int .lss (.t 15) (.c (.int .i64 0))),
 oq 17 (.mov (.t 16)),
  ⟨some 18, .fa 1 (.t 1), (some (17, false)), []⟩,
  ⟨some 19, .load none (.t 18), (some (17, false)), []⟩,
  ⟨some 20, .bin .int .gtr (.t 19) (.c (.int .i64 9)), (some (17, false)), []⟩,
 oq 21 (.pick (.t 17) (.c (.bool true)) (.t 20)),
 oq 13 (.mov (.t 21))] [] false)
    (.cond (.t 13)
      (.seq (.region [
 oq 22 (.ifc 1 (.c (.int .i64 1))),
 oq 2 (.mov (.c (.int .i64 (-1)))),
 oq 3 (.mov (.t 22))] [] false)
      (.ret))
      (.seq (.region [
 oq 24 (.fa 2 (.t 1)),
 oq 25 (.load none (.t 24)),
 oq 26 (.len false (.t 25)),
 oq 27 (.bin .int .gtr (.t 26) (.c (.int .i64 12))),
 oq 23 (.mov (.t 27))] [] false)
      (.cond (.t 23)
        (.seq (.region [
 oq 28 (.ifc 1 (.c (.int .i64 4))),
 oq 2 (.mov (.c (.int .i64 (-1)))),
 oq 3 (.mov (.t 28))] [] false)
        (.ret))
        (.seq (.region [
 oq 30 (.fa 2 (.t 1)),
 oq 31 (.load none (.t 30)),
 oq 32 (.len false (.t 31)),
 oq 33 (.bin .int .eql (.t 32) (.c (.int .i64 0))),
 oq 29 (.mov (.t 33))] [] false)
        (.cond (.t 29)
          (.seq (.region [
 oq 34 (.ifc 1 (.c (.int .i64 5))),
 oq 2 (.mov (.c (.int .i64 (-1)))),
 oq 3 (.mov (.t 34))] [] false)
          (.ret))
          (.skip))))))))
  (.seq (.seq (.region [
 oq 35 (.fa 2 (.t 1)),
 oq 36 (.load none (.t 35)),
 oq 37 (.len false (.t 36)),
 oq 38 (.mov (.c (.int .i64 0)))] [] false)
  (.loop ⟨[.slot 38 .int], [5, 6, 39, 40, 41, 42, 43, 44, 45, 46, 49], [], []⟩ 1 (.seq (.region [
 oq 39 (.bin .int .lss (.t 38) (.t 37))] [] false)
    (.seq (.cond (.t 39)
      (.skip)
      (.exit 1))
    (.seq (.block 2 (.seq (.region [
 oq 40 (.mov (.t 38)),
 oq 5 (.mov (.t 40))] [] false)
      (.seq (.region [
 oq 41 (.fa 2 (.t 1)),
 oq 42 (.load none (.t 41)),
 oq 43 (.mov (.t 5)),
 oq 44 (.call false [] 42 [(.t 42), (.t 43)]),
 oq 6 (.mov (.t 44))] [] false)
      (.seq (.region [
 oq 45 (.mov (.t 6)),
 oq 46 (.eqn false true (.t 45))] [] false)
      (.cond (.t 46)
        (.seq (.region [
 oq 47 (.mov (.t 5)),
 oq 48 (.mov (.t 6)),
 oq 2 (.mov (.t 47)),
 oq 3 (.mov (.t 48))] [] false)
        (.ret))
        (.skip))))))
    (.region [
 oq 49 (.bin .int .add (.t 38) (.c (.int .i64 1))),
 oq 38 (.mov (.t 49))] [] false))))))
  (.seq (.region [
 oq 2 (.mov (.c (.int .i64 (-1)))),
 oq 3 (.mov (.c (.nilIface)))] [] false)
  (.ret)))))
def tf15 : TFunc := { np := 1, nt := 50, res := [.tmp 2, .tmp 3], own := false, body := tc15 }
noncomputable def S15_L1 (F42 : (List Member) → Int → (Option Err)) (a0 : Dim) (x3 : Int) : Option (LR Int (Int × Err)) :=
  br (decide (x3 < ((List.length (Dim.members a0) : Nat) : Int)))
  (bno (F42 (Dim.members a0) x3) fun y4 =>
  br (!(Err.isNil y4))
  (finO (some (x3, y4)))
  (nxO (some (wi (x3 + (1 : Int))))))
  (dnO (some x3))
noncomputable def S15 (F41 : ByteArray → (Option Err)) (F42 : (List Member) → Int → (Option Err)) (a0 : Dim) : Option (Int × Err) :=
  bno (F41 (Dim.name a0)) fun y1 =>
  br (!(Err.isNil y1))
  (some ((-1 : Int), y1))
  (jn (σ := Bool) (α := (Int × Err)) (br (decide ((Dim.solve a0) < (0 : Int)))
  (inlO (some true))
  (inlO (some (decide ((9 : Int) < (Dim.solve a0)))))) fun x2 =>
  br x2
  (some ((-1 : Int), Err.no (1 : Int)))
  (br (decide ((12 : Int) < ((List.length (Dim.members a0) : Nat) : Int)))
  (some ((-1 : Int), Err.no (4 : Int)))
  (br (decide (((List.length (Dim.members a0) : Nat) : Int) = (0 : Int)))
  (some ((-1 : Int), Err.no (5 : Int)))
  (lp (S15_L1 F42 a0) (0 : Int) fun x5 =>
  some ((-1 : Int), Err.nil)))))
theorem s15 (F41 : ByteArray → (Option Err)) (F42 : (List Member) → Int → (Option Err)) (a0 : Dim) : tf15.run [⟨41, [.str], .err, fun x => F41 x, false, []⟩,
  ⟨42, [(.sl .member), .int], .err, fun x => F42 x.1 x.2, false, []⟩] [(.st .dim)] (.tp [.int, .err]) a0 = S15 F41 F42 a0 := by kernel_rfl
noncomputable def P15 (a0 : Dim) : Option (Int × Err) := S15 P41 P42 a0
noncomputable def k15 : CSpec := ⟨15, [(.st .dim)], (.tp [.int, .err]), fun x => P15 x, false, []⟩
theorem r15 {S : Seat} (h : Ok1 S 15 tf15) (h41 : Rt S k41) (h42 : Rt S k42) : Rt S k15 := fun x y hy =>
  Ok1.sound h (C := [k41, k42]) (CSound.cons h41 (CSound.cons h42 CSound.nil)) rfl rfl rfl ((s15 P41 P42 x).trans hy) rfl
end Ab
