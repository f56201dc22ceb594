/-
  Functions of the program as typed code, what they come to, and their contracts: written by program (mk.py).
-/
import Derived.Test.YtcabflannjeigaaGreatDoorB2
import Derived.KernelRfl
namespace Ab
open Go
set_option linter.unusedVariables false
set_option maxRecDepth 100000

/- tallyhall/outline.Name$1 -/
def tc67 : TCode :=
  .seq (.region [
  ⟨some 2, .mov (.c (.bool false)), none, []⟩] [] false)
  (.seq (.regionJ ⟨[.slot 2 .bool], [3, 4, 5, 6, 7, 8], [], []⟩ [
  ⟨some 3, .mov (.t 0), none, []⟩,
  ⟨some 4, .bin .int .lss (.t 3) (.c (.int .u8 97)), none, []⟩,
  ⟨some 5, .mov (.t 4), none, []⟩,
  ⟨some 6, .mov (.t 0), (some (5, false)), []⟩,
  ⟨some 7, .bin .int .gtr (.t 6) (.c (.int .u8 122)), (some (5, false)), []⟩,
  ⟨some 8, .pick (.t 5) (.c (.bool true)) (.t 7), none, []⟩,
  ⟨some 2, .mov (.t 8), none, []⟩] [] false)
  (.ret))
def tf67 : TFunc := { np := 1, nt := 9, res := [.tmp 2], own := false, body := tc67 }
noncomputable def S67 (a0 : Int) : Option Bool :=
  jn (σ := Bool) (α := Bool) (br (decide (a0 < (97 : Int)))
  (inlO (some true))
  (inlO (some (decide ((122 : Int) < a0))))) fun x1 =>
  some x1
theorem s67 (a0 : Int) : tf67.run [] [.u8] .bool a0 = S67 a0 := by kernel_rfl
noncomputable def P67 (a0 : Int) : Option Bool := S67 a0
noncomputable def k67 : CSpec := ⟨67, [.u8], .bool, fun x => P67 x, false, []⟩
theorem r67 {S : Seat} (h : Ok1 S 67 tf67) : Rt S k67 := fun x y hy =>
  Ok1.sound h (C := []) CSound.nil rfl rfl rfl ((s67 x).trans hy) rfl

/- slices.IndexFunc[[]byte,byte] -/
def tc75 : TCode :=
  .seq (.region [
  ⟨some 4, .mov (.c (.int .i64 0)), none, []⟩] [] false)
  (.seq (.seq (.region [
  ⟨some 6, .mov (.t 0), none, []⟩,
  ⟨some 7, .len false (.t 6), none, []⟩,
  ⟨some 8, .mov (.c (.int .i64 0)), none, []⟩] [] false)
  (.loop ⟨[.slot 8 .int], [5, 9, 10, 11, 12, 13, 14, 15, 16, 18], [], []⟩ 0 (.seq (.region [
  ⟨some 9, .bin .int .lss (.t 8) (.t 7), none, []⟩] [] false)
    (.seq (.cond (.t 9)
      (.skip)
      (.exit 0))
    (.seq (.block 1 (.seq (.region [
  ⟨some 10, .mov (.t 8), none, []⟩,
  ⟨some 5, .mov (.t 10), none, []⟩] [] false)
      (.seq (.region [
  ⟨some 11, .mov (.t 1), none, []⟩,
  ⟨some 12, .mov (.t 0), none, []⟩,
  ⟨some 13, .mov (.t 5), none, []⟩,
  ⟨some 14, .ia 1 (.t 12) (.t 13), none, []⟩,
  ⟨some 15, .load none (.t 14), none, []⟩,
  ⟨some 16, .calld false (.t 11) [(.t 15)], none, []⟩] [] false)
      (.cond (.t 16)
        (.seq (.region [
  ⟨some 17, .mov (.t 5), none, []⟩,
  ⟨some 4, .mov (.t 17), none, []⟩] [] false)
        (.ret))
        (.skip)))))
    (.region [
  ⟨some 18, .bin .int .add (.t 8) (.c (.int .i64 1)), none, []⟩,
  ⟨some 8, .mov (.t 18), none, []⟩] [] false))))))
  (.seq (.region [
  ⟨some 4, .mov (.c (.int .i64 (-1))), none, []⟩] [] false)
  (.ret)))
def tf75 : TFunc := { np := 2, nt := 19, res := [.tmp 4], own := false, body := tc75 }
noncomputable def S75_67_L1 (F67 : Int → (Option Bool)) (a0 : (List UInt8)) (x1 : Int) : Option (LR Int Int) :=
  br (decide (x1 < ((List.length a0 : Nat) : Int)))
  (bno (lookI a0 x1) fun y2 =>
  bno (F67 ((UInt8.toNat y2 : Nat) : Int)) fun y3 =>
  br y3
  (finO (some x1))
  (nxO (some (wi (x1 + (1 : Int))))))
  (dnO (some x1))
noncomputable def S75_67 (F67 : Int → (Option Bool)) (a0 : (List UInt8)) : Option Int :=
  lp (S75_67_L1 F67 a0) (0 : Int) fun x4 =>
  some (-1 : Int)
theorem s75_67 (F67 : Int → (Option Bool)) (a0 : (List UInt8)) : tf75.run [⟨67, [.u8], .bool, fun x => F67 x, false, []⟩] [(.sl .u8), (.fnc 67 [])] .int (a0, ()) = S75_67 F67 a0 := by kernel_rfl
noncomputable def P75_67 (a0 : (List UInt8)) : Option Int := S75_67 P67 a0
noncomputable def k75_67 : CSpec := ⟨75, [(.sl .u8), (.fnc 67 [])], .int, fun x => P75_67 x.1, false, []⟩
theorem r75_67 {S : Seat} (h : Ok1 S 75 tf75) (h67 : Rt S k67) : Rt S k75_67 := fun x y hy =>
  Ok1.sound h (C := [k67]) (CSound.cons h67 CSound.nil) rfl rfl rfl ((s75_67 P67 x.1).trans hy) rfl

/- slices.ContainsFunc[[]byte,byte] -/
def tc66 : TCode :=
  .seq (.region [
  ⟨some 4, .mov (.c (.bool false)), none, []⟩] [] false)
  (.seq (.region [
  ⟨some 5, .mov (.t 0), none, []⟩,
  ⟨some 6, .mov (.t 1), none, []⟩,
  ⟨some 7, .call false [] 75 [(.t 5), (.t 6)], none, []⟩,
  ⟨some 8, .bin .int .geq (.t 7) (.c (.int .i64 0)), none, []⟩,
  ⟨some 4, .mov (.t 8), none, []⟩] [] false)
  (.ret))
def tf66 : TFunc := { np := 2, nt := 9, res := [.tmp 4], own := false, body := tc66 }
noncomputable def S66_67 (F75_67 : (List UInt8) → (Option Int)) (a0 : (List UInt8)) : Option Bool :=
  bno (F75_67 a0) fun y1 =>
  some (decide ((0 : Int) ≤ y1))
theorem s66_67 (F75_67 : (List UInt8) → (Option Int)) (a0 : (List UInt8)) : tf66.run [⟨75, [(.sl .u8), (.fnc 67 [])], .int, fun x => F75_67 x.1, false, []⟩] [(.sl .u8), (.fnc 67 [])] .bool (a0, ()) = S66_67 F75_67 a0 := by kernel_rfl
noncomputable def P66_67 (a0 : (List UInt8)) : Option Bool := S66_67 P75_67 a0
noncomputable def k66_67 : CSpec := ⟨66, [(.sl .u8), (.fnc 67 [])], .bool, fun x => P66_67 x.1, false, []⟩
theorem r66_67 {S : Seat} (h : Ok1 S 66 tf66) (h75_67 : Rt S k75_67) : Rt S k66_67 := fun x y hy =>
  Ok1.sound h (C := [k75_67]) (CSound.cons h75_67 CSound.nil) rfl rfl rfl ((s66_67 P75_67 x.1).trans hy) rfl

/- tallyhall/outline.Name -/
def tc41 : TCode :=
  .seq (.region [
  ⟨some 2, .mov (.c (.nilIface)), none, []⟩] [] false)
  (.seq (.seq (.regionJ ⟨[.slot 14 .bool], [3, 4, 5, 6, 7, 8, 9, 10, 11, 12, 13], [], []⟩ [
  ⟨some 3, .mov (.t 0), none, []⟩,
  ⟨some 4, .bin .str .eql (.t 3) (.c (.string ⟨#[]⟩)), none, []⟩,
  ⟨some 5, .mov (.t 4), none, []⟩,
  ⟨some 6, .mov (.t 0), (some (5, false)), []⟩,
  ⟨some 7, .len true (.t 6), (some (5, false)), []⟩,
  ⟨some 8, .bin .int .gtr (.t 7) (.c (.int .i64 8)), (some (5, false)), []⟩,
  ⟨some 9, .pick (.t 5) (.c (.bool true)) (.t 8), none, []⟩,
  ⟨some 10, .mov (.t 9), none, []⟩,
  ⟨some 11, .mov (.t 0), (some (10, false)), []⟩,
  ⟨some 12, .cvs (.t 11), (some (10, false)), []⟩,
  ⟨some 13, .call false [] 66 [(.t 12), (.f 67)], (some (10, false)), []⟩,
  ⟨some 14, .pick (.t 10) (.c (.bool true)) (.t 13), none, []⟩] [] false)
  (.cond (.t 14)
    (.seq (.region [
  ⟨some 15, .ifc 1 (.c (.int .i64 2)), none, []⟩,
  ⟨some 2, .mov (.t 15), none, []⟩] [] false)
    (.ret))
    (.skip)))
  (.seq (.region [
  ⟨some 2, .mov (.c (.nilIface)), none, []⟩] [] false)
  (.ret)))
def tf41 : TFunc := { np := 1, nt := 16, res := [.tmp 2], own := false, body := tc41 }
noncomputable def S41 (F66_67 : (List UInt8) → (Option Bool)) (a0 : ByteArray) : Option Err :=
  jn (σ := Bool) (α := Err) (br (decide (a0 = (⟨#[]⟩ : ByteArray)))
  (inlO (some true))
  (br (decide ((8 : Int) < ((ByteArray.size a0 : Nat) : Int)))
  (inlO (some true))
  (bno (F66_67 ((ByteArray.data a0).toList)) fun y1 =>
  inlO (some y1)))) fun x2 =>
  br x2
  (some (Err.no (2 : Int)))
  (some Err.nil)
theorem s41 (F66_67 : (List UInt8) → (Option Bool)) (a0 : ByteArray) : tf41.run [⟨66, [(.sl .u8), (.fnc 67 [])], .bool, fun x => F66_67 x.1, false, []⟩] [.str] .err a0 = S41 F66_67 a0 := by kernel_rfl
noncomputable def P41 (a0 : ByteArray) : Option Err := S41 P66_67 a0
noncomputable def k41 : CSpec := ⟨41, [.str], .err, fun x => P41 x, false, []⟩
theorem r41 {S : Seat} (h : Ok1 S 41 tf41) (h66_67 : Rt S k66_67) : Rt S k41 := fun x y hy =>
  Ok1.sound h (C := [k66_67]) (CSound.cons h66_67 CSound.nil) rfl rfl rfl ((s41 P66_67 x).trans hy) rfl

/- tallyhall/outline.Where$1 -/
/- slices.IndexFunc[[]tallyhall/api.Member,tallyhall/api.Member] -/
/- tallyhall/outline.Where -/
/- tallyhall/outline.member -/
/- tallyhall/outline.Check -/
/- tallyhall/outline.Find -/
/- tallyhall/outline.All$1 -/
/- slices.IndexFunc[[]tallyhall/api.Dim,tallyhall/api.Dim] -/
/- slices.ContainsFunc[[]tallyhall/api.Dim,tallyhall/api.Dim] -/
/- tallyhall/outline.Size -/
/- tallyhall/outline.All -/
/- tallyhall/outline.Right -/
end Ab
