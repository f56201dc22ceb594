/-
  Functions of the program as typed code, what they come to, and their contracts: written by program (mk.py).
-/
import Derived.Test.YtchidgkpkhloeaaGreatDoorB2
import Derived.KernelRfl
namespace Ab
open Go
set_option linter.unusedVariables false
set_option maxRecDepth 100000
def tc68 : TCode :=
  .seq (.region [
 oq 2 (.mov (.c (.string ⟨#[]⟩)))] [] false)
  (.seq (.region [
 oq 5 (.mov (.t 0)),
 oq 6 (.bin .int .quo (.t 5) (.c (.int .i64 26))),
 oq 7 (.bin .int .rem (.t 6) (.c (.int .i64 26))),
 oq 3 (.mov (.t 7))] [] false)
  (.seq (.region [
 oq 8 (.mov (.t 0)),
 oq 9 (.bin .int .rem (.t 8) (.c (.int .i64 26))),
 oq 4 (.mov (.t 9))] [] false)
  (.seq (.region [
 oq 10 (.mov (.t 3)),
 oq 11 (.mov (.t 3)),
  ⟨some 12, .bin .int .add (.t 11) (.c (.int .i64 1)), none, [1]⟩,
  ⟨some 13, .slc 0 (.c (.string ⟨#[97, 98, 99, 100, 101, 102, 103, 104, 105, 106, 107, 108, 109, 110, 111, 112, 113, 114, 115, 116, 117, 118, 119, 120, 121, 122]⟩)) (some (.t 10)) (some (.t 12)), none, [0, 2]⟩,
 oq 14 (.mov (.t 4)),
 oq 15 (.mov (.t 4)),
  ⟨some 16, .bin .int .add (.t 15) (.c (.int .i64 1)), none, [5]⟩,
  ⟨some 17, .slc 0 (.c (.string ⟨#[97, 98, 99, 100, 101, 102, 103, 104, 105, 106, 107, 108, 109, 110, 111, 112, 113, 114, 115, 116, 117, 118, 119, 120, 121, 122]⟩)) (some (.t 14)) (some (.t 16)), none, [4, 6]⟩,
  ⟨some 18, .bin .str .add (.t 13) (.t 17), none, [3, 7]⟩,
  ⟨some 2, .mov (.t 18), none, [8, 0, 1, 2, 3, 4, 5, 6, 7, 8]⟩] [] true)
  (.ret))))
def tf68 : TFunc := { np := 1, nt := 19, res := [.tmp 2], own := false, body := tc68 }
noncomputable def S68 (a0 : Int) : Option ByteArray :=
  ck (decide (¬ (26 : Int) = 0)) <|
  ck (decide (¬ (26 : Int) = 0)) <|
  ck (decide (¬ (26 : Int) = 0)) <|
  ck (decide (0 ≤ Int.tmod (wi (Int.tdiv a0 (26 : Int))) (26 : Int) ∧ Int.tmod (wi (Int.tdiv a0 (26 : Int))) (26 : Int) ≤ wi ((Int.tmod (wi (Int.tdiv a0 (26 : Int))) (26 : Int)) + (1 : Int)) ∧ wi ((Int.tmod (wi (Int.tdiv a0 (26 : Int))) (26 : Int)) + (1 : Int)) ≤ ((ByteArray.size (⟨#[97, 98, 99, 100, 101, 102, 103, 104, 105, 106, 107, 108, 109, 110, 111, 112, 113, 114, 115, 116, 117, 118, 119, 120, 121, 122]⟩ : ByteArray) : Nat) : Int))) <|
  ck (decide (0 ≤ Int.tmod a0 (26 : Int) ∧ Int.tmod a0 (26 : Int) ≤ wi ((Int.tmod a0 (26 : Int)) + (1 : Int)) ∧ wi ((Int.tmod a0 (26 : Int)) + (1 : Int)) ≤ ((ByteArray.size (⟨#[97, 98, 99, 100, 101, 102, 103, 104, 105, 106, 107, 108, 109, 110, 111, 112, 113, 114, 115, 116, 117, 118, 119, 120, 121, 122]⟩ : ByteArray) : Nat) : Int))) <|
  ck (decide (ByteArray.size (ByteArray.extract (⟨#[97, 98, 99, 100, 101, 102, 103, 104, 105, 106, 107, 108, 109, 110, 111, 112, 113, 114, 115, 116, 117, 118, 119, 120, 121, 122]⟩ : ByteArray) (Int.toNat (Int.tmod (wi (Int.tdiv a0 (26 : Int))) (26 : Int))) (Int.toNat (wi ((Int.tmod (wi (Int.tdiv a0 (26 : Int))) (26 : Int)) + (1 : Int))))) + ByteArray.size (ByteArray.extract (⟨#[97, 98, 99, 100, 101, 102, 103, 104, 105, 106, 107, 108, 109, 110, 111, 112, 113, 114, 115, 116, 117, 118, 119, 120, 121, 122]⟩ : ByteArray) (Int.toNat (Int.tmod a0 (26 : Int))) (Int.toNat (wi ((Int.tmod a0 (26 : Int)) + (1 : Int))))) ≤ 9223372036854775807)) <|
  some ((ByteArray.extract (⟨#[97, 98, 99, 100, 101, 102, 103, 104, 105, 106, 107, 108, 109, 110, 111, 112, 113, 114, 115, 116, 117, 118, 119, 120, 121, 122]⟩ : ByteArray) (Int.toNat (Int.tmod (wi (Int.tdiv a0 (26 : Int))) (26 : Int))) (Int.toNat (wi ((Int.tmod (wi (Int.tdiv a0 (26 : Int))) (26 : Int)) + (1 : Int))))) ++ (ByteArray.extract (⟨#[97, 98, 99, 100, 101, 102, 103, 104, 105, 106, 107, 108, 109, 110, 111, 112, 113, 114, 115, 116, 117, 118, 119, 120, 121, 122]⟩ : ByteArray) (Int.toNat (Int.tmod a0 (26 : Int))) (Int.toNat (wi ((Int.tmod a0 (26 : Int)) + (1 : Int))))))
theorem s68 (a0 : Int) : tf68.run [] [.int] .str a0 = S68 a0 := by kernel_rfl
noncomputable def P68 (a0 : Int) : Option ByteArray := S68 a0
noncomputable def k68 : CSpec := ⟨68, [.int], .str, fun x => P68 x, false, []⟩
theorem r68 {S : Seat} (h : Ok1 S 68 tf68) : Rt S k68 := fun x y hy =>
  Ok1.sound h (C := []) CSound.nil rfl rfl rfl ((s68 x).trans hy) rfl
end Ab
