/-
  Functions of the program as typed code, what they come to, and their contracts: written by program (mk.py).
-/
import Derived.Test.YtcabflannjeigaaGreatDoorB2
import Derived.KernelRfl
namespace Ab
open Go
set_option linter.unusedVariables false
set_option maxRecDepth 100000

/- tallyhall/tallyref1.Cell -/
/- tallyhall/tallyref1.Of -/
/- tallyhall/tallyref1.Digits -/
def tc159 : TCode :=
  .seq (.region [
  ⟨some 2, .mov (.c (.string ⟨#[]⟩)), none, []⟩] [] false)
  (.seq (.seq (.region [
  ⟨some 6, .mov (.t 0), none, []⟩,
  ⟨some 7, .bin .int .lss (.t 6) (.c (.int .i64 0)), none, []⟩] [] false)
  (.cond (.t 7)
    (.seq (.region [
  ⟨some 8, .mov (.t 0), none, []⟩,
  ⟨some 9, .un .neg (.t 8), none, []⟩,
  ⟨some 10, .call false [] 159 [(.t 9)], none, []⟩,
  ⟨some 3, .mov (.t 10), none, []⟩] [] false)
    (.seq (.region [
  ⟨some 11, .mov (.t 3), none, []⟩,
  ⟨some 12, .bin .str .add (.c (.string ⟨#[45]⟩)) (.t 11), none, []⟩,
  ⟨some 2, .mov (.t 12), none, []⟩] [] false)
    (.ret)))
    (.skip)))
  (.seq (.seq (.region [
  ⟨some 13, .mov (.t 0), none, []⟩,
  ⟨some 14, .bin .int .lss (.t 13) (.c (.int .i64 10)), none, []⟩] [] false)
  (.cond (.t 14)
    (.seq (.region [
  ⟨some 15, .mov (.t 0), none, []⟩,
  ⟨some 16, .mov (.t 0), none, []⟩,
  ⟨some 17, .bin .int .add (.t 16) (.c (.int .i64 1)), none, []⟩,
  ⟨some 18, .slc 0 (.c (.string ⟨#[48, 49, 50, 51, 52, 53, 54, 55, 56, 57]⟩)) (some (.t 15)) (some (.t 17)), none, []⟩,
  ⟨some 2, .mov (.t 18), none, []⟩] [] false)
    (.ret))
    (.skip)))
  (.seq (.region [
  ⟨some 19, .mov (.t 0), none, []⟩,
  ⟨some 20, .bin .int .rem (.t 19) (.c (.int .i64 10)), none, []⟩,
  ⟨some 4, .mov (.t 20), none, []⟩] [] false)
  (.seq (.region [
  ⟨some 21, .mov (.t 0), none, []⟩,
  ⟨some 22, .bin .int .quo (.t 21) (.c (.int .i64 10)), none, []⟩,
  ⟨some 23, .call false [] 159 [(.t 22)], none, []⟩,
  ⟨some 5, .mov (.t 23), none, []⟩] [] false)
  (.seq (.region [
  ⟨some 24, .mov (.t 5), none, []⟩,
  ⟨some 25, .mov (.t 4), none, []⟩,
  ⟨some 26, .mov (.t 4), none, []⟩,
  ⟨some 27, .bin .int .add (.t 26) (.c (.int .i64 1)), none, []⟩,
  ⟨some 28, .slc 0 (.c (.string ⟨#[48, 49, 50, 51, 52, 53, 54, 55, 56, 57]⟩)) (some (.t 25)) (some (.t 27)), none, []⟩,
  ⟨some 29, .bin .str .add (.t 24) (.t 28), none, []⟩,
  ⟨some 2, .mov (.t 29), none, []⟩] [] false)
  (.ret))))))
def tf159 : TFunc := { np := 1, nt := 30, res := [.tmp 2], own := false, body := tc159 }
noncomputable def S159 (F159 : Int → (Option ByteArray)) (a0 : Int) : Option ByteArray :=
  br (decide (a0 < (0 : Int)))
  (bno (F159 (wi (0 - a0))) fun y1 =>
  ck (decide (ByteArray.size (⟨#[45]⟩ : ByteArray) + ByteArray.size y1 ≤ 9223372036854775807)) <|
  some ((⟨#[45]⟩ : ByteArray) ++ y1))
  (br (decide (a0 < (10 : Int)))
  (ck (decide (0 ≤ a0 ∧ a0 ≤ wi (a0 + (1 : Int)) ∧ wi (a0 + (1 : Int)) ≤ ((ByteArray.size (⟨#[48, 49, 50, 51, 52, 53, 54, 55, 56, 57]⟩ : ByteArray) : Nat) : Int))) <|
  some (ByteArray.extract (⟨#[48, 49, 50, 51, 52, 53, 54, 55, 56, 57]⟩ : ByteArray) (Int.toNat a0) (Int.toNat (wi (a0 + (1 : Int))))))
  (ck (decide (¬ (10 : Int) = 0)) <|
  ck (decide (¬ (10 : Int) = 0)) <|
  bno (F159 (wi (Int.tdiv a0 (10 : Int)))) fun y2 =>
  ck (decide (0 ≤ Int.tmod a0 (10 : Int) ∧ Int.tmod a0 (10 : Int) ≤ wi ((Int.tmod a0 (10 : Int)) + (1 : Int)) ∧ wi ((Int.tmod a0 (10 : Int)) + (1 : Int)) ≤ ((ByteArray.size (⟨#[48, 49, 50, 51, 52, 53, 54, 55, 56, 57]⟩ : ByteArray) : Nat) : Int))) <|
  ck (decide (ByteArray.size y2 + ByteArray.size (ByteArray.extract (⟨#[48, 49, 50, 51, 52, 53, 54, 55, 56, 57]⟩ : ByteArray) (Int.toNat (Int.tmod a0 (10 : Int))) (Int.toNat (wi ((Int.tmod a0 (10 : Int)) + (1 : Int))))) ≤ 9223372036854775807)) <|
  some (y2 ++ (ByteArray.extract (⟨#[48, 49, 50, 51, 52, 53, 54, 55, 56, 57]⟩ : ByteArray) (Int.toNat (Int.tmod a0 (10 : Int))) (Int.toNat (wi ((Int.tmod a0 (10 : Int)) + (1 : Int))))))))
theorem s159 (F159 : Int → (Option ByteArray)) (a0 : Int) : tf159.run [⟨159, [.int], .str, fun x => F159 x, false, []⟩] [.int] .str a0 = S159 F159 a0 := by kernel_rfl
noncomputable def P159n : Nat → (Int) → Option ByteArray
  | 0 => fun _ => none
  | i + 1 => fun a0 => S159 (P159n i) a0
noncomputable def k159n (i : Nat) : CSpec := ⟨159, [.int], .str, fun x => P159n i x, false, []⟩
theorem r159n {S : Seat} (h : Ok1 S 159 tf159) : ∀ i, Rt S (k159n i)
  | 0 => fun x y hy => (by cases hy)
  | i + 1 => fun x y hy =>
    have h159 := r159n h i
    Ok1.sound h (C := [(k159n i)]) (CSound.cons h159 CSound.nil) rfl rfl rfl ((s159 (P159n i) x).trans hy) rfl
noncomputable def P159 (a0 : Int) : Option ByteArray := P159n (30) a0
noncomputable def k159 : CSpec := ⟨159, [.int], .str, fun x => P159 x, false, []⟩
theorem r159 {S : Seat} (h : Ok1 S 159 tf159) : Rt S k159 := fun x y hy => r159n h (30) x y hy

/- tallyhall/tallyref1.Show -/
/- tallyhall/tallyref1.Plus -/
/- tallyhall/tallyref1.size -/
/- tallyhall/tallyref1.Times -/
/- tallyhall/tallyref1.Over -/
/- tallyhall/tallyref1.Int -/
/- tallyhall/tallyref1.Read -/
end Ab
