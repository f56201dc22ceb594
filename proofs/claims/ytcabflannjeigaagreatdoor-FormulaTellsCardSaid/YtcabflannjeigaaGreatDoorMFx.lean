/-
  Functions of the program as typed code, what they come to, and their contracts: written by program (mk.py).
-/
import Derived.Test.YtcabflannjeigaaGreatDoorB2
import Derived.KernelRfl
import Derived.Test.YtcabflannjeigaaGreatDoorMRc
namespace Ab
open Go
set_option linter.unusedVariables false
set_option maxRecDepth 100000

/- tallyhall/tallyref2.rank -/
def tc253 : TCode :=
  .seq (.region [
  ⟨some 2, .mov (.c (.int .i64 0)), none, []⟩] [] false)
  (.seq (.seq (.regionJ ⟨[.slot 8 .bool], [3, 4, 5, 6, 7], [], []⟩ [
  ⟨some 3, .mov (.t 0), none, []⟩,
  ⟨some 4, .bin .int .eql (.t 3) (.c (.int .i64 3)), none, []⟩,
  ⟨some 5, .mov (.t 4), none, []⟩,
  ⟨some 6, .mov (.t 0), (some (5, false)), []⟩,
  ⟨some 7, .bin .int .eql (.t 6) (.c (.int .i64 4)), (some (5, false)), []⟩,
  ⟨some 8, .pick (.t 5) (.c (.bool true)) (.t 7), none, []⟩] [] false)
  (.cond (.t 8)
    (.seq (.region [
  ⟨some 2, .mov (.c (.int .i64 1)), none, []⟩] [] false)
    (.ret))
    (.skip)))
  (.seq (.seq (.regionJ ⟨[.slot 14 .bool], [9, 10, 11, 12, 13], [], []⟩ [
  ⟨some 9, .mov (.t 0), none, []⟩,
  ⟨some 10, .bin .int .eql (.t 9) (.c (.int .i64 5)), none, []⟩,
  ⟨some 11, .mov (.t 10), none, []⟩,
  ⟨some 12, .mov (.t 0), (some (11, false)), []⟩,
  ⟨some 13, .bin .int .eql (.t 12) (.c (.int .i64 6)), (some (11, false)), []⟩,
  ⟨some 14, .pick (.t 11) (.c (.bool true)) (.t 13), none, []⟩] [] false)
  (.cond (.t 14)
    (.seq (.region [
  ⟨some 2, .mov (.c (.int .i64 2)), none, []⟩] [] false)
    (.ret))
    (.skip)))
  (.seq (.region [
  ⟨some 2, .mov (.c (.int .i64 3)), none, []⟩] [] false)
  (.ret))))
def tf253 : TFunc := { np := 1, nt := 15, res := [.tmp 2], own := false, body := tc253 }
noncomputable def S253 (a0 : Int) : Option Int :=
  jn (σ := Bool) (α := Int) (br (decide (a0 = (3 : Int)))
  (inlO (some true))
  (inlO (some (decide (a0 = (4 : Int)))))) fun x1 =>
  br x1
  (some (1 : Int))
  (jn (σ := Bool) (α := Int) (br (decide (a0 = (5 : Int)))
  (inlO (some true))
  (inlO (some (decide (a0 = (6 : Int)))))) fun x2 =>
  br x2
  (some (2 : Int))
  (some (3 : Int)))
theorem s253 (a0 : Int) : tf253.run [] [.int] .int a0 = S253 a0 := by kernel_rfl
noncomputable def P253 (a0 : Int) : Option Int := S253 a0
noncomputable def k253 : CSpec := ⟨253, [.int], .int, fun x => P253 x, false, []⟩
theorem r253 {S : Seat} (h : Ok1 S 253 tf253) : Rt S k253 := fun x y hy =>
  Ok1.sound h (C := []) CSound.nil rfl rfl rfl ((s253 x).trans hy) rfl

/- tallyhall/tallyref2.Text -/
def tc242 : TCode :=
  .seq (.region [
  ⟨some 4, .mov (.c (.string ⟨#[]⟩)), none, []⟩] [] false)
  (.seq (.region [
  ⟨some 8, .mov (.t 0), none, []⟩,
  ⟨some 9, .mov (.t 1), none, []⟩,
  ⟨some 10, .ia 5 (.t 8) (.t 9), none, []⟩,
  ⟨some 11, .load (some 5) (.t 10), none, []⟩,
  ⟨some 5, .alloc [.int .i64 0, .int .i64 0, .string ⟨#[]⟩, .int .i64 0, .int .i64 0], none, []⟩,
  ⟨none, .store 5 (.t 5) (.t 11), none, []⟩] [] false)
  (.seq (.seq (.region [
  ⟨some 12, .fa 0 (.t 5), none, []⟩,
  ⟨some 13, .load none (.t 12), none, []⟩,
  ⟨some 14, .bin .int .eql (.t 13) (.c (.int .i64 1)), none, []⟩] [] false)
  (.cond (.t 14)
    (.seq (.region [
  ⟨some 15, .fa 1 (.t 5), none, []⟩,
  ⟨some 16, .load none (.t 15), none, []⟩,
  ⟨some 17, .call false [] 159 [(.t 16)], none, []⟩,
  ⟨some 4, .mov (.t 17), none, []⟩] [] false)
    (.ret))
    (.skip)))
  (.seq (.seq (.region [
  ⟨some 18, .fa 0 (.t 5), none, []⟩,
  ⟨some 19, .load none (.t 18), none, []⟩,
  ⟨some 20, .bin .int .eql (.t 19) (.c (.int .i64 2)), none, []⟩] [] false)
  (.cond (.t 20)
    (.seq (.region [
  ⟨some 21, .fa 2 (.t 5), none, []⟩,
  ⟨some 22, .load none (.t 21), none, []⟩,
  ⟨some 4, .mov (.t 22), none, []⟩] [] false)
    (.ret))
    (.skip)))
  (.seq (.region [
  ⟨some 23, .mov (.t 0), none, []⟩,
  ⟨some 24, .fa 3 (.t 5), none, []⟩,
  ⟨some 25, .load none (.t 24), none, []⟩,
  ⟨some 26, .call false [] 242 [(.t 23), (.t 25)], none, []⟩,
  ⟨some 6, .mov (.t 26), none, []⟩] [] false)
  (.seq (.region [
  ⟨some 27, .mov (.t 0), none, []⟩,
  ⟨some 28, .fa 4 (.t 5), none, []⟩,
  ⟨some 29, .load none (.t 28), none, []⟩,
  ⟨some 30, .call false [] 242 [(.t 27), (.t 29)], none, []⟩,
  ⟨some 7, .mov (.t 30), none, []⟩] [] false)
  (.seq (.seq (.region [
  ⟨some 31, .mov (.t 0), none, []⟩,
  ⟨some 32, .fa 3 (.t 5), none, []⟩,
  ⟨some 33, .load none (.t 32), none, [1]⟩,
  ⟨some 34, .ia 5 (.t 31) (.t 33), none, [0, 2]⟩,
  ⟨some 35, .fa 0 (.t 34), none, [3]⟩,
  ⟨some 36, .load none (.t 35), none, [4]⟩,
  ⟨some 37, .call false [] 253 [(.t 36)], none, [5]⟩,
  ⟨some 38, .fa 0 (.t 5), none, []⟩,
  ⟨some 39, .load none (.t 38), none, [7]⟩,
  ⟨some 40, .call false [] 253 [(.t 39)], none, [8, 6]⟩,
  ⟨some 41, .bin .int .lss (.t 37) (.t 40), none, [6, 9]⟩] [] true)
  (.condJ ⟨[.slot 6 .str], [42, 43, 44], [], []⟩ (.t 41)
    (.region [
  ⟨some 42, .mov (.t 6), none, []⟩,
  ⟨some 43, .bin .str .add (.c (.string ⟨#[40]⟩)) (.t 42), none, []⟩,
  ⟨some 44, .bin .str .add (.t 43) (.c (.string ⟨#[41]⟩)), none, []⟩,
  ⟨some 6, .mov (.t 44), none, []⟩] [] false)
    (.skip)))
  (.seq (.seq (.region [
  ⟨some 45, .mov (.t 0), none, []⟩,
  ⟨some 46, .fa 4 (.t 5), none, []⟩,
  ⟨some 47, .load none (.t 46), none, [1]⟩,
  ⟨some 48, .ia 5 (.t 45) (.t 47), none, [0, 2]⟩,
  ⟨some 49, .fa 0 (.t 48), none, [3]⟩,
  ⟨some 50, .load none (.t 49), none, [4]⟩,
  ⟨some 51, .call false [] 253 [(.t 50)], none, [5]⟩,
  ⟨some 52, .fa 0 (.t 5), none, []⟩,
  ⟨some 53, .load none (.t 52), none, [7]⟩,
  ⟨some 54, .call false [] 253 [(.t 53)], none, [8, 6]⟩,
  ⟨some 55, .bin .int .leq (.t 51) (.t 54), none, [6, 9]⟩] [] true)
  (.condJ ⟨[.slot 7 .str], [56, 57, 58], [], []⟩ (.t 55)
    (.region [
  ⟨some 56, .mov (.t 7), none, []⟩,
  ⟨some 57, .bin .str .add (.c (.string ⟨#[40]⟩)) (.t 56), none, []⟩,
  ⟨some 58, .bin .str .add (.t 57) (.c (.string ⟨#[41]⟩)), none, []⟩,
  ⟨some 7, .mov (.t 58), none, []⟩] [] false)
    (.skip)))
  (.seq (.region [
  ⟨some 59, .mov (.t 6), none, []⟩,
  ⟨some 60, .fa 0 (.t 5), none, []⟩,
  ⟨some 61, .load none (.t 60), none, []⟩,
  ⟨some 62, .bin .int .sub (.t 61) (.c (.int .i64 3)), none, []⟩,
  ⟨some 63, .fa 0 (.t 5), none, []⟩,
  ⟨some 64, .load none (.t 63), none, []⟩,
  ⟨some 65, .bin .int .sub (.t 64) (.c (.int .i64 2)), none, []⟩,
  ⟨some 66, .slc 0 (.c (.string ⟨#[43, 45, 42, 47]⟩)) (some (.t 62)) (some (.t 65)), none, []⟩,
  ⟨some 67, .bin .str .add (.t 59) (.t 66), none, []⟩,
  ⟨some 68, .mov (.t 7), none, []⟩,
  ⟨some 69, .bin .str .add (.t 67) (.t 68), none, []⟩,
  ⟨some 4, .mov (.t 69), none, []⟩] [] false)
  (.ret)))))))))
def tf242 : TFunc := { np := 2, nt := 70, res := [.tmp 4], own := false, body := tc242 }
noncomputable def S242 (F159 : Int → (Option ByteArray)) (F242 : (List Node) → Int → (Option ByteArray)) (F253 : Int → (Option Int)) (a0 : (List Node)) (a1 : Int) : Option ByteArray :=
  bno (lookI a0 a1) fun y1 =>
  br (decide ((Node.op y1) = (1 : Int)))
  (bno (F159 (Node.n y1)) fun y2 =>
  some y2)
  (br (decide ((Node.op y1) = (2 : Int)))
  (some (Node.name y1))
  (bno (F242 a0 (Node.left y1)) fun y3 =>
  bno (F242 a0 (Node.right y1)) fun y4 =>
  bno (lookI a0 (Node.left y1)) fun y5 =>
  bno (F253 (Node.op y5)) fun y6 =>
  bno (F253 (Node.op y1)) fun y7 =>
  jn (σ := ByteArray) (α := ByteArray) (br (decide (y6 < y7))
  (ck (decide (ByteArray.size (⟨#[40]⟩ : ByteArray) + ByteArray.size y3 ≤ 9223372036854775807)) <|
  ck (decide (ByteArray.size ((⟨#[40]⟩ : ByteArray) ++ y3) + ByteArray.size (⟨#[41]⟩ : ByteArray) ≤ 9223372036854775807)) <|
  inlO (some (((⟨#[40]⟩ : ByteArray) ++ y3) ++ (⟨#[41]⟩ : ByteArray))))
  (inlO (some y3))) fun x8 =>
  bno (lookI a0 (Node.right y1)) fun y9 =>
  bno (F253 (Node.op y9)) fun y10 =>
  bno (F253 (Node.op y1)) fun y11 =>
  jn (σ := ByteArray) (α := ByteArray) (br (decide (y10 ≤ y11))
  (ck (decide (ByteArray.size (⟨#[40]⟩ : ByteArray) + ByteArray.size y4 ≤ 9223372036854775807)) <|
  ck (decide (ByteArray.size ((⟨#[40]⟩ : ByteArray) ++ y4) + ByteArray.size (⟨#[41]⟩ : ByteArray) ≤ 9223372036854775807)) <|
  inlO (some (((⟨#[40]⟩ : ByteArray) ++ y4) ++ (⟨#[41]⟩ : ByteArray))))
  (inlO (some y4))) fun x12 =>
  ck (decide (0 ≤ wi ((Node.op y1) - (3 : Int)) ∧ wi ((Node.op y1) - (3 : Int)) ≤ wi ((Node.op y1) - (2 : Int)) ∧ wi ((Node.op y1) - (2 : Int)) ≤ ((ByteArray.size (⟨#[43, 45, 42, 47]⟩ : ByteArray) : Nat) : Int))) <|
  ck (decide (ByteArray.size x8 + ByteArray.size (ByteArray.extract (⟨#[43, 45, 42, 47]⟩ : ByteArray) (Int.toNat (wi ((Node.op y1) - (3 : Int)))) (Int.toNat (wi ((Node.op y1) - (2 : Int))))) ≤ 9223372036854775807)) <|
  ck (decide (ByteArray.size (x8 ++ (ByteArray.extract (⟨#[43, 45, 42, 47]⟩ : ByteArray) (Int.toNat (wi ((Node.op y1) - (3 : Int)))) (Int.toNat (wi ((Node.op y1) - (2 : Int)))))) + ByteArray.size x12 ≤ 9223372036854775807)) <|
  some ((x8 ++ (ByteArray.extract (⟨#[43, 45, 42, 47]⟩ : ByteArray) (Int.toNat (wi ((Node.op y1) - (3 : Int)))) (Int.toNat (wi ((Node.op y1) - (2 : Int)))))) ++ x12)))
theorem s242 (F159 : Int → (Option ByteArray)) (F242 : (List Node) → Int → (Option ByteArray)) (F253 : Int → (Option Int)) (a0 : (List Node)) (a1 : Int) : tf242.run [⟨159, [.int], .str, fun x => F159 x, false, []⟩,
  ⟨242, [(.sl .node), .int], .str, fun x => F242 x.1 x.2, false, []⟩,
  ⟨253, [.int], .int, fun x => F253 x, false, []⟩] [(.sl .node), .int] .str (a0, a1) = S242 F159 F242 F253 a0 a1 := by kernel_rfl
noncomputable def P242n : Nat → ((List Node)) → (Int) → Option ByteArray
  | 0 => fun _ _ => none
  | i + 1 => fun a0 a1 => S242 P159 (P242n i) P253 a0 a1
noncomputable def k242n (i : Nat) : CSpec := ⟨242, [(.sl .node), .int], .str, fun x => P242n i x.1 x.2, false, []⟩
theorem r242n {S : Seat} (h : Ok1 S 242 tf242) (h159 : Rt S k159) (h253 : Rt S k253) : ∀ i, Rt S (k242n i)
  | 0 => fun x y hy => (by cases hy)
  | i + 1 => fun x y hy =>
    have h242 := r242n h h159 h253 i
    Ok1.sound h (C := [k159, (k242n i), k253]) (CSound.cons h159 (CSound.cons h242 (CSound.cons h253 CSound.nil))) rfl rfl rfl ((s242 P159 (P242n i) P253 x.1 x.2).trans hy) rfl
noncomputable def P242 (a0 : (List Node)) (a1 : Int) : Option ByteArray := P242n ((Int.toNat a1) + 1) a0 a1
noncomputable def k242 : CSpec := ⟨242, [(.sl .node), .int], .str, fun x => P242 x.1 x.2, false, []⟩
theorem r242 {S : Seat} (h : Ok1 S 242 tf242) (h159 : Rt S k159) (h253 : Rt S k253) : Rt S k242 := fun x y hy => r242n h h159 h253 ((Int.toNat x.2) + 1) x y hy

/- tallyhall/tallysame.Texts -/
def tc246 : TCode :=
  .seq (.region [
  ⟨some 4, .mov (.c (.bool false)), none, []⟩] [] false)
  (.seq (.seq (.region [
  ⟨some 6, .mov (.t 0), none, []⟩,
  ⟨some 7, .len false (.t 6), none, []⟩,
  ⟨some 8, .mov (.t 1), none, []⟩,
  ⟨some 9, .len false (.t 8), none, []⟩,
  ⟨some 10, .bin .int .neq (.t 7) (.t 9), none, []⟩] [] false)
  (.cond (.t 10)
    (.seq (.region [
  ⟨some 4, .mov (.c (.bool false)), none, []⟩] [] false)
    (.ret))
    (.skip)))
  (.seq (.seq (.region [
  ⟨some 5, .mov (.c (.int .i64 0)), none, []⟩] [] false)
  (.loop ⟨[.slot 5 .int], [11, 12, 13, 14, 15, 16, 17, 18, 19, 20, 21, 22, 23, 24, 25], [], []⟩ 0 (.seq (.seq (.region [
  ⟨some 11, .mov (.t 5), none, []⟩,
  ⟨some 12, .mov (.t 0), none, []⟩,
  ⟨some 13, .len false (.t 12), none, []⟩,
  ⟨some 14, .bin .int .lss (.t 11) (.t 13), none, []⟩] [] false)
    (.cond (.t 14)
      (.skip)
      (.exit 0)))
    (.seq (.block 1 (.seq (.region [
  ⟨some 17, .mov (.t 0), none, []⟩,
  ⟨some 18, .mov (.t 5), none, []⟩,
  ⟨some 19, .ia 1 (.t 17) (.t 18), none, [0, 1]⟩,
  ⟨some 20, .load none (.t 19), none, [2]⟩,
  ⟨some 21, .mov (.t 1), none, []⟩,
  ⟨some 22, .mov (.t 5), none, []⟩,
  ⟨some 23, .ia 1 (.t 21) (.t 22), none, [4, 5]⟩,
  ⟨some 24, .load none (.t 23), none, [6]⟩,
  ⟨some 25, .bin .str .neq (.t 20) (.t 24), none, [3, 7]⟩] [] true)
      (.cond (.t 25)
        (.seq (.region [
  ⟨some 4, .mov (.c (.bool false)), none, []⟩] [] false)
        (.ret))
        (.skip))))
    (.region [
  ⟨some 15, .mov (.t 5), none, []⟩,
  ⟨some 16, .bin .int .add (.t 15) (.c (.int .i64 1)), none, []⟩,
  ⟨some 5, .mov (.t 16), none, []⟩] [] false)))))
  (.seq (.region [
  ⟨some 4, .mov (.c (.bool true)), none, []⟩] [] false)
  (.ret))))
def tf246 : TFunc := { np := 2, nt := 26, res := [.tmp 4], own := false, body := tc246 }
noncomputable def S246_L1 (a0 : (List ByteArray)) (a1 : (List ByteArray)) (x1 : Int) : Option (LR Int Bool) :=
  br (decide (x1 < ((List.length a0 : Nat) : Int)))
  (bno (lookI a0 x1) fun y2 =>
  bno (lookI a1 x1) fun y3 =>
  br (decide (¬ y2 = y3))
  (finO (some false))
  (nxO (some (wi (x1 + (1 : Int))))))
  (dnO (some x1))
noncomputable def S246 (a0 : (List ByteArray)) (a1 : (List ByteArray)) : Option Bool :=
  br (decide (¬ ((List.length a0 : Nat) : Int) = ((List.length a1 : Nat) : Int)))
  (some false)
  (lp (S246_L1 a0 a1) (0 : Int) fun x4 =>
  some true)
theorem s246 (a0 : (List ByteArray)) (a1 : (List ByteArray)) : tf246.run [] [(.sl .str), (.sl .str)] .bool (a0, a1) = S246 a0 a1 := by kernel_rfl
noncomputable def P246 (a0 : (List ByteArray)) (a1 : (List ByteArray)) : Option Bool := S246 a0 a1
noncomputable def k246 : CSpec := ⟨246, [(.sl .str), (.sl .str)], .bool, fun x => P246 x.1 x.2, false, []⟩
theorem r246 {S : Seat} (h : Ok1 S 246 tf246) : Rt S k246 := fun x y hy =>
  Ok1.sound h (C := []) CSound.nil rfl rfl rfl ((s246 x.1 x.2).trans hy) rfl

end Ab
