/-
  Functions of the program as typed code, what they come to, and their contracts: written by program (mk.py).
-/
import Derived.Test.YtchidgkpkhloeaaGreatDoorB2
import Derived.KernelRfl
namespace Ab
open Go
set_option linter.unusedVariables false
set_option maxRecDepth 100000
def tc68 : TCode :=
  .seq (.region [
 oq 2 (.mov (.c (.string ⟨#[]⟩)))] [] false)
  (.seq (.region [
 oq 5 (.mov (.t 0)),
 oq 6 (.bin .int .quo (.t 5) (.c (.int .i64 26))),
 oq 7 (.bin .int .rem (.t 6) (.c (.int .i64 26))),
 oq 3 (.mov (.t 7))] [] false)
  (.seq (.region [
 oq 8 (.mov (.t 0)),
 oq 9 (.bin .int .rem (.t 8) (.c (.int .i64 26))),
 oq 4 (.mov (.t 9))] [] false)
  (.seq (.region [
 oq 10 (.mov (.t 3)),
 oq 11 (.mov (.t 3)),
  ⟨some 12, .bin .int .add (.t 11) (.c (.int .i64 1)), none, [1]⟩,
  ⟨some 13, .slc 0 (.c (.string ⟨#[97, 98, 99, 100, 101, 102, 103, 104, 105, 106, 107, 108, 109, 110, 111, 112, 113, 114, 115, 116, 117, 118, 119, 120, 121, 122]⟩)) (some (.t 10)) (some (.t 12)), none, [0, 2]⟩,
 oq 14 (.mov (.t 4)),
 oq 15 (.mov (.t 4)),
  ⟨some 16, .bin .int .add (.t 15) (.c (.int .i64 1)), none, [5]⟩,
  ⟨some 17, .slc 0 (.c (.string ⟨#[97, 98, 99, 100, 101, 102, 103, 104, 105, 106, 107, 108, 109, 110, 111, 112, 113, 114, 115, 116, 117, 118, 119, 120, 121, 122]⟩)) (some (.t 14)) (some (.t 16)), none, [4, 6]⟩,
  ⟨some 18, .bin .str .add (.t 13) (.t 17), none, [3, 7]⟩,
  ⟨some 2, .mov (.t 18), none, [8, 0, 1, 2, 3, 4, 5, 6, 7, 8]⟩] [] true)
  (.ret))))
def tf68 : TFunc := { np := 1, nt := 19, res := [.tmp 2], own := false, body := tc68 }
noncomputable def S68 (a0 : Int) : Option ByteArray :=
  ck (decide (¬ (26 : Int) = 0)) <|
  ck (decide (¬ (26 : Int) = 0)) <|
  ck (decide (¬ (26 : Int) = 0)) <|
  ck (decide (0 ≤ Int.tmod (wi (Int.tdiv a0 (26 : Int))) (26 : Int) ∧ Int.tmod (wi (Int.tdiv a0 (26 : Int))) (26 : Int) ≤ wi ((Int.tmod (wi (Int.tdiv a0 (26 : Int))) (26 : Int)) + (1 : Int)) ∧ wi ((Int.tmod (wi (Int.tdiv a0 (26 : Int))) (26 : Int)) + (1 : Int)) ≤ ((ByteArray.size (⟨#[97, 98, 99, 100, 101, 102, 103, 104, 105, 106, 107, 108, 109, 110, 111, 112, 113, 114, 115, 116, 117, 118, 119, 120, 121, 122]⟩ : ByteArray) : Nat) : Int))) <|
  ck (decide (0 ≤ Int.tmod a0 (26 : Int) ∧ Int.tmod a0 (26 : Int) ≤ wi ((Int.tmod a0 (26 : Int)) + (1 : Int)) ∧ wi ((Int.tmod a0 (26 : Int)) + (1 : Int)) ≤ ((ByteArray.size (⟨#[97, 98, 99, 100, 101, 102, 103, 104, 105, 106, 107, 108, 109, 110, 111, 112, 113, 114, 115, 116, 117, 118, 119, 120, 121, 122]⟩ : ByteArray) : Nat) : Int))) <|
  ck (decide (ByteArray.size (ByteArray.extract (⟨#[97, 98, 99, 100, 101, 102, 103, 104, 105, 106, 107, 108, 109, 110, 111, 112, 113, 114, 115, 116, 117, 118, 119, 120, 121, 122]⟩ : ByteArray) (Int.toNat (Int.tmod (wi (Int.tdiv a0 (26 : Int))) (26 : Int))) (Int.toNat (wi ((Int.tmod (wi (Int.tdiv a0 (26 : Int))) (26 : Int)) + (1 : Int))))) + ByteArray.size (ByteArray.extract (⟨#[97, 98, 99, 100, 101, 102, 103, 104, 105, 106, 107, 108, 109, 110, 111, 112, 113, 114, 115, 116, 117, 118, 119, 120, 121, 122]⟩ : ByteArray) (Int.toNat (Int.tmod a0 (26 : Int))) (Int.toNat (wi ((Int.tmod a0 (26 : Int)) + (1 : Int))))) ≤ 9223372036854775807)) <|
  some ((ByteArray.extract (⟨#[97, 98, 99, 100, 101, 102, 103, 104, 105, 106, 107, 108, 109, 110, 111, 112, 113, 114, 115, 116, 117, 118, 119, 120, 121, 122]⟩ : ByteArray) (Int.toNat (Int.tmod (wi (Int.tdiv a0 (26 : Int))) (26 : Int))) (Int.toNat (wi ((Int.tmod (wi (Int.tdiv a0 (26 : Int))) (26 : Int)) + (1 : Int))))) ++ (ByteArray.extract (⟨#[97, 98, 99, 100, 101, 102, 103, 104, 105, 106, 107, 108, 109, 110, 111, 112, 113, 114, 115, 116, 117, 118, 119, 120, 121, 122]⟩ : ByteArray) (Int.toNat (Int.tmod a0 (26 : Int))) (Int.toNat (wi ((Int.tmod a0 (26 : Int)) + (1 : Int))))))
theorem s68 (a0 : Int) : tf68.run [] [.int] .str a0 = S68 a0 := by kernel_rfl
noncomputable def P68 (a0 : Int) : Option ByteArray := S68 a0
noncomputable def k68 : CSpec := ⟨68, [.int], .str, fun x => P68 x, false, []⟩
theorem r68 {S : Seat} (h : Ok1 S 68 tf68) : Rt S k68 := fun x y hy =>
  Ok1.sound h (C := []) CSound.nil rfl rfl rfl ((s68 x).trans hy) rfl
def tc50 : TCode :=
  .seq (.region [
 oq 4 (.alloc [.string ⟨#[]⟩, .int .i64 0, .slice none 0 0])] [] false)
  (.seq (.region [
 oq 7 (.mov (.t 0)),
 oq 8 (.build [.string ⟨#[]⟩, .int .i64 0, .int .i64 0, .string ⟨#[]⟩] [(0, 1, (.c (.string ⟨#[97, 108, 108]⟩))), (1, 1, (.c (.int .i64 (-1))))]),
 oq 9 (.bslice false 4 [.string ⟨#[]⟩, .int .i64 0, .int .i64 0, .string ⟨#[]⟩] 1 [(0, (.t 8))]),
 oq 10 (.build [.string ⟨#[]⟩, .int .i64 0, .slice none 0 0] [(0, 1, (.t 7)), (2, 1, (.t 9))]),
 oq 5 (.alloc [.string ⟨#[]⟩, .int .i64 0, .slice none 0 0]),
  ⟨none, .store 3 (.t 5) (.t 10), none, []⟩] [.int, .int, .member] false)
  (.seq (.seq (.region [
 oq 6 (.mov (.c (.int .i64 0)))] [] false)
  (.loop ⟨[.slot 6 .int, .var 5 [.sh .str, .sh .int, .row 9 .member]], [11, 12, 13, 14, 15, 16, 17, 18, 19, 20, 21, 22, 23], [21], []⟩ 0 (.seq (.seq (.region [
 oq 11 (.mov (.t 6)),
 oq 12 (.mov (.t 1)),
 oq 13 (.bin .int .lss (.t 11) (.t 12))] [] false)
    (.cond (.t 13)
      (.skip)
      (.exit 0)))
    (.seq (.block 1 (.region [
 oq 16 (.fa 2 (.t 5)),
  ⟨some 17, .load none (.t 16), none, [0]⟩,
 oq 18 (.mov (.t 6)),
  ⟨some 19, .call false [] 68 [(.t 18)], none, [2]⟩,
  ⟨some 20, .build [.string ⟨#[]⟩, .int .i64 0, .int .i64 0, .string ⟨#[]⟩] [(0, 1, (.t 19)), (1, 1, (.c (.int .i64 0))), (2, 1, (.c (.int .i64 1)))], none, [3]⟩,
  ⟨some 21, .bslice false 4 [.string ⟨#[]⟩, .int .i64 0, .int .i64 0, .string ⟨#[]⟩] 1 [(0, (.t 20))], none, [4]⟩,
  ⟨some 22, .app 4 (.t 17) (.t 21), none, [1, 5, 3]⟩,
  ⟨some 23, .fa 2 (.t 5), none, [0, 1, 2, 3, 4, 5, 6]⟩,
  ⟨none, .store 1 (.t 23) (.t 22), none, [7, 6, 6, 0, 1, 2, 3, 4, 5, 6]⟩] [.int, .int, .int, .int, .int, .member, .member] true))
    (.region [
 oq 14 (.mov (.t 6)),
 oq 15 (.bin .int .add (.t 14) (.c (.int .i64 1))),
 oq 6 (.mov (.t 15))] [] false)))))
  (.seq (.region [
 oq 24 (.load (some 3) (.t 5)),
  ⟨none, .store 3 (.t 4) (.t 24), none, []⟩] [] false)
  (.ret))))
def tf50 : TFunc := { np := 2, nt := 25, res := [.cell 4 (some 3)], own := false, body := tc50 }
noncomputable def S50_L1 (F68 : Int → (Option ByteArray)) (a1 : Int) (x1 : (Int × (ByteArray × Int × (List Member)))) : Option (LR (Int × (ByteArray × Int × (List Member))) Dim) :=
  br (decide (x1.1 < a1))
  (bno (F68 x1.1) fun y2 =>
  ck (decide (List.length x1.2.2.2 + List.length ([Member.mk y2 (0 : Int) (1 : Int) (⟨#[]⟩ : ByteArray)] : List Member) ≤ roomA)) <|
  nxO (some (wi (x1.1 + (1 : Int)), (x1.2.1, x1.2.2.1, x1.2.2.2 ++ ([Member.mk y2 (0 : Int) (1 : Int) (⟨#[]⟩ : ByteArray)] : List Member)))))
  (dnO (some (x1.1, (x1.2.1, x1.2.2.1, x1.2.2.2))))
noncomputable def S50 (F68 : Int → (Option ByteArray)) (a0 : ByteArray) (a1 : Int) : Option Dim :=
  lp (S50_L1 F68 a1) ((0 : Int), (a0, (0 : Int), ([Member.mk (⟨#[97, 108, 108]⟩ : ByteArray) (-1 : Int) (0 : Int) (⟨#[]⟩ : ByteArray)] : List Member))) fun x3 =>
  some (Dim.mk x3.2.1 x3.2.2.1 x3.2.2.2)
theorem s50 (F68 : Int → (Option ByteArray)) (a0 : ByteArray) (a1 : Int) : tf50.run [⟨68, [.int], .str, fun x => F68 x, false, []⟩] [.str, .int] (.st .dim) (a0, a1) = S50 F68 a0 a1 := by kernel_rfl
noncomputable def P50 (a0 : ByteArray) (a1 : Int) : Option Dim := S50 P68 a0 a1
noncomputable def k50 : CSpec := ⟨50, [.str, .int], (.st .dim), fun x => P50 x.1 x.2, false, []⟩
theorem r50 {S : Seat} (h : Ok1 S 50 tf50) (h68 : Rt S k68) : Rt S k50 := fun x y hy =>
  Ok1.sound h (C := [k68]) (CSound.cons h68 CSound.nil) rfl rfl rfl ((s50 P68 x.1 x.2).trans hy) rfl
def tc22 : TCode :=
  .seq (.region [
 oq 2 (.alloc [.slice none 0 0])] [] false)
  (.seq (.region [
 oq 3 (.mov (.t 0)),
 oq 4 (.call true [] 50 [(.c (.string ⟨#[120]⟩)), (.t 3)]),
 oq 5 (.mov (.t 0)),
 oq 6 (.call true [] 50 [(.c (.string ⟨#[121]⟩)), (.t 5)]),
 oq 7 (.bslice true 3 [.string ⟨#[]⟩, .int .i64 0, .slice none 0 0] 2 [(0, (.t 4)), (1, (.t 6))]),
 oq 8 (.build [.slice none 0 0] [(0, 1, (.t 7))]),
  ⟨none, .store 1 (.t 2) (.t 8), none, []⟩] [.int, .int, .int, .int, .dim] false)
  (.ret))
def tf22 : TFunc := { np := 1, nt := 9, res := [.cell 2 (some 1)], own := false, body := tc22 }
noncomputable def S22 (F50 : ByteArray → Int → (Option Dim)) (a0 : Int) : Option (List Dim) :=
  bno (F50 (⟨#[120]⟩ : ByteArray) a0) fun y1 =>
  bno (F50 (⟨#[121]⟩ : ByteArray) a0) fun y2 =>
  some ([y1, y2] : List Dim)
theorem s22 (F50 : ByteArray → Int → (Option Dim)) (a0 : Int) : tf22.run [⟨50, [.str, .int], (.st .dim), fun x => F50 x.1 x.2, false, []⟩] [.int] (.st .outl) a0 = S22 F50 a0 := by kernel_rfl
noncomputable def P22 (a0 : Int) : Option (List Dim) := S22 P50 a0
noncomputable def k22 : CSpec := ⟨22, [.int], (.st .outl), fun x => P22 x, false, []⟩
theorem r22 {S : Seat} (h : Ok1 S 22 tf22) (h50 : Rt S k50) : Rt S k22 := fun x y hy =>
  Ok1.sound h (C := [k50]) (CSound.cons h50 CSound.nil) rfl rfl rfl ((s22 P50 x).trans hy) rfl
end Ab
