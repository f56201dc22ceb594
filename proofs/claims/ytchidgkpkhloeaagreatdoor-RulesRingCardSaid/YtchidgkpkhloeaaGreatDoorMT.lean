/-
  Functions of the program as typed code, what they come to, and their contracts: written by program (mk.py).
-/
import Derived.Test.YtchidgkpkhloeaaGreatDoorB2
import Derived.KernelRfl
import Derived.Test.YtchidgkpkhloeaaGreatDoorMO
namespace Ab
open Go
set_option linter.unusedVariables false
set_option maxRecDepth 100000
def tc47 : TCode :=
  .seq (.region [
 oq 2 (.box (.t 0)),
 oq 4 (.mov (.c (.slice none 0 0)))] [] false)
  (.seq (.seq (.region [
 oq 7 (.fa 2 (.t 2)),
 oq 8 (.load none (.t 7)),
 oq 9 (.len false (.t 8)),
 oq 10 (.mov (.c (.int .i64 0)))] [] false)
  (.loop ⟨[.row 4 22 .int, .slot 10 .int], [5, 6, 11, 12, 13, 14, 15, 16, 17, 18, 19, 20, 21, 22, 23], [6, 21], []⟩ 0 (.seq (.region [
 oq 11 (.bin .int .lss (.t 10) (.t 9))] [] false)
    (.seq (.cond (.t 11)
      (.skip)
      (.exit 0))
    (.seq (.block 1 (.seq (.region [
 oq 12 (.mov (.t 10)),
 oq 13 (.ia 4 (.t 8) (.t 10)),
 oq 14 (.load (some 4) (.t 13)),
 oq 6 (.alloc [.string ⟨#[]⟩, .int .i64 0, .int .i64 0, .string ⟨#[]⟩]),
 oq 5 (.mov (.t 12)),
  ⟨none, .store 4 (.t 6) (.t 14), none, []⟩] [] false)
      (.seq (.region [
 oq 15 (.fa 1 (.t 6)),
 oq 16 (.load none (.t 15)),
 oq 17 (.mov (.t 1)),
 oq 18 (.bin .int .eql (.t 16) (.t 17))] [] false)
      (.condJ ⟨[.row 4 22 .int], [19, 20, 21, 22], [21], []⟩ (.t 18)
        (.region [
 oq 19 (.mov (.t 4)),
 oq 20 (.mov (.t 5)),
 oq 21 (.bslice false 1 [.int .i64 0] 1 [(0, (.t 20))]),
 oq 22 (.app 1 (.t 19) (.t 21)),
 oq 4 (.mov (.t 22))] [] false)
        (.skip)))))
    (.region [
 oq 23 (.bin .int .add (.t 10) (.c (.int .i64 1))),
 oq 10 (.mov (.t 23))] [] false))))))
  (.seq (.region [
 oq 24 (.mov (.t 4)),
 oq 4 (.mov (.t 24))] [] false)
  (.ret)))
def tf47 : TFunc := { np := 2, nt := 25, res := [.tmp 4], own := false, body := tc47 }
noncomputable def S47_L1 (a0 : Dim) (a1 : Int) (x1 : ((List Int) × Int)) : Option (LR ((List Int) × Int) (List Int)) :=
  br (decide (x1.2 < ((List.length (Dim.members a0) : Nat) : Int)))
  (bno (lookI (Dim.members a0) x1.2) fun y2 =>
  jn (σ := (List Int)) (α := (LR ((List Int) × Int) (List Int))) (br (decide ((Member.parent y2) = a1))
  (ck (decide (List.length x1.1 + List.length ([x1.2] : List Int) ≤ roomA)) <|
  inlO (some (x1.1 ++ ([x1.2] : List Int))))
  (inlO (some x1.1))) fun x3 =>
  nxO (some (x3, wi (x1.2 + (1 : Int)))))
  (dnO (some (x1.1, x1.2)))
noncomputable def S47 (a0 : Dim) (a1 : Int) : Option (List Int) :=
  lp (S47_L1 a0 a1) (([] : List Int), (0 : Int)) fun x4 =>
  some x4.1
theorem s47 (a0 : Dim) (a1 : Int) : tf47.run [] [(.st .dim), .int] (.sl .int) (a0, a1) = S47 a0 a1 := by kernel_rfl
noncomputable def P47 (a0 : Dim) (a1 : Int) : Option (List Int) := S47 a0 a1
noncomputable def k47 : CSpec := ⟨47, [(.st .dim), .int], (.sl .int), fun x => P47 x.1 x.2, false, []⟩
theorem r47 {S : Seat} (h : Ok1 S 47 tf47) : Rt S k47 := fun x y hy =>
  Ok1.sound h (C := []) CSound.nil rfl rfl rfl ((s47 x.1 x.2).trans hy) rfl
end Ab
