/-
  Functions of the program as typed code, what they come to, and their contracts: written by program (mk.py).
-/
import Derived.Test.YtcabflannjeigaaGreatDoorB2
import Derived.KernelRfl
import Derived.Test.YtcabflannjeigaaGreatDoorMFm
import Derived.Test.YtcabflannjeigaaGreatDoorMSt
namespace Ab
open Go
set_option linter.unusedVariables false
set_option maxRecDepth 100000

/- tallyhall/formula.tight -/
def tc260 : TCode :=
  .seq (.region [
  ⟨some 2, .mov (.c (.bool false)), none, []⟩] [] false)
  (.seq (.regionJ ⟨[.slot 2 .bool], [3, 4, 5, 6, 7, 8], [], []⟩ [
  ⟨some 3, .mov (.t 0), none, []⟩,
  ⟨some 4, .bin .int .eql (.t 3) (.c (.int .i64 5)), none, []⟩,
  ⟨some 5, .mov (.t 4), none, []⟩,
  ⟨some 6, .mov (.t 0), (some (5, false)), []⟩,
  ⟨some 7, .bin .int .eql (.t 6) (.c (.int .i64 6)), (some (5, false)), []⟩,
  ⟨some 8, .pick (.t 5) (.c (.bool true)) (.t 7), none, []⟩,
  ⟨some 2, .mov (.t 8), none, []⟩] [] false)
  (.ret))
def tf260 : TFunc := { np := 1, nt := 9, res := [.tmp 2], own := false, body := tc260 }
noncomputable def S260 (a0 : Int) : Option Bool :=
  jn (σ := Bool) (α := Bool) (br (decide (a0 = (5 : Int)))
  (inlO (some true))
  (inlO (some (decide (a0 = (6 : Int)))))) fun x1 =>
  some x1
theorem s260 (a0 : Int) : tf260.run [] [.int] .bool a0 = S260 a0 := by kernel_rfl
noncomputable def P260 (a0 : Int) : Option Bool := S260 a0
noncomputable def k260 : CSpec := ⟨260, [.int], .bool, fun x => P260 x, false, []⟩
theorem r260 {S : Seat} (h : Ok1 S 260 tf260) : Rt S k260 := fun x y hy =>
  Ok1.sound h (C := []) CSound.nil rfl rfl rfl ((s260 x).trans hy) rfl

/- tallyhall/formula.text -/
def tc254 : TCode :=
  .seq (.region [
  ⟨some 4, .mov (.c (.string ⟨#[]⟩)), none, []⟩] [] false)
  (.seq (.region [
  ⟨some 10, .mov (.t 0), none, []⟩,
  ⟨some 11, .mov (.t 1), none, []⟩,
  ⟨some 12, .ia 5 (.t 10) (.t 11), none, []⟩,
  ⟨some 13, .load (some 5) (.t 12), none, []⟩,
  ⟨some 5, .alloc [.int .i64 0, .int .i64 0, .string ⟨#[]⟩, .int .i64 0, .int .i64 0], none, []⟩,
  ⟨none, .store 5 (.t 5) (.t 13), none, []⟩] [] false)
  (.seq (.seq (.region [
  ⟨some 14, .fa 0 (.t 5), none, []⟩,
  ⟨some 15, .load none (.t 14), none, []⟩] [] false)
  (.block 0 (.seq (.region [
  ⟨some 17, .bin .int .eql (.t 15) (.c (.int .i64 1)), none, []⟩,
  ⟨some 16, .mov (.t 17), none, []⟩] [] false)
    (.cond (.t 16)
      (.seq (.region [
  ⟨some 18, .fa 1 (.t 5), none, []⟩,
  ⟨some 19, .load none (.t 18), none, []⟩,
  ⟨some 20, .call false [] 157 [(.t 19)], none, []⟩,
  ⟨some 4, .mov (.t 20), none, []⟩] [] false)
      (.ret))
      (.seq (.region [
  ⟨some 22, .bin .int .eql (.t 15) (.c (.int .i64 2)), none, []⟩,
  ⟨some 21, .mov (.t 22), none, []⟩] [] false)
      (.cond (.t 21)
        (.seq (.region [
  ⟨some 23, .fa 2 (.t 5), none, []⟩,
  ⟨some 24, .load none (.t 23), none, []⟩,
  ⟨some 4, .mov (.t 24), none, []⟩] [] false)
        (.ret))
        (.skip)))))))
  (.seq (.region [
  ⟨some 25, .mov (.t 0), none, []⟩,
  ⟨some 26, .fa 3 (.t 5), none, []⟩,
  ⟨some 27, .load none (.t 26), none, [1]⟩,
  ⟨some 28, .call false [] 254 [(.t 25), (.t 27)], none, [0, 2]⟩,
  ⟨some 29, .mov (.t 0), none, []⟩,
  ⟨some 30, .fa 4 (.t 5), none, []⟩,
  ⟨some 31, .load none (.t 30), none, [5]⟩,
  ⟨some 32, .call false [] 254 [(.t 29), (.t 31)], none, [4, 6, 3]⟩,
  ⟨some 6, .mov (.t 28), none, [3, 7, 0, 1, 2, 3]⟩,
  ⟨some 7, .mov (.t 32), none, [7, 8, 0, 1, 2, 3, 4, 5, 6, 7, 8]⟩] [] true)
  (.seq (.seq (.region [
  ⟨some 33, .mov (.t 0), none, []⟩,
  ⟨some 34, .fa 3 (.t 5), none, []⟩,
  ⟨some 35, .load none (.t 34), none, []⟩,
  ⟨some 36, .ia 5 (.t 33) (.t 35), none, []⟩,
  ⟨some 37, .fa 0 (.t 36), none, []⟩,
  ⟨some 38, .load none (.t 37), none, []⟩,
  ⟨some 8, .mov (.t 38), none, []⟩] [] false)
  (.seq (.regionJ ⟨[.slot 50 .bool], [39, 40, 41, 42, 43, 44, 45, 46, 47, 48, 49], [], []⟩ [
  ⟨some 39, .mov (.t 8), none, []⟩,
  ⟨some 40, .call false [] 252 [(.t 39)], none, []⟩,
  ⟨some 41, .mov (.t 40), none, []⟩,
  ⟨some 42, .fa 0 (.t 5), (some (41, true)), []⟩,
  ⟨some 43, .load none (.t 42), (some (41, true)), []⟩,
  ⟨some 44, .call false [] 260 [(.t 43)], (some (41, true)), []⟩,
  ⟨some 45, .pick (.t 41) (.t 44) (.c (.bool false)), none, []⟩,
  ⟨some 46, .mov (.t 45), none, []⟩,
  ⟨some 47, .mov (.t 8), (some (46, true)), []⟩,
  ⟨some 48, .call false [] 260 [(.t 47)], (some (46, true)), []⟩,
  ⟨some 49, .un .not (.t 48), (some (46, true)), []⟩,
  ⟨some 50, .pick (.t 46) (.t 49) (.c (.bool false)), none, []⟩] [] false)
  (.condJ ⟨[.slot 6 .str], [51, 52, 53], [], []⟩ (.t 50)
    (.region [
  ⟨some 51, .mov (.t 6), none, []⟩,
  ⟨some 52, .bin .str .add (.c (.string ⟨#[40]⟩)) (.t 51), none, []⟩,
  ⟨some 53, .bin .str .add (.t 52) (.c (.string ⟨#[41]⟩)), none, []⟩,
  ⟨some 6, .mov (.t 53), none, []⟩] [] false)
    (.skip))))
  (.seq (.seq (.region [
  ⟨some 54, .mov (.t 0), none, []⟩,
  ⟨some 55, .fa 4 (.t 5), none, []⟩,
  ⟨some 56, .load none (.t 55), none, []⟩,
  ⟨some 57, .ia 5 (.t 54) (.t 56), none, []⟩,
  ⟨some 58, .fa 0 (.t 57), none, []⟩,
  ⟨some 59, .load none (.t 58), none, []⟩,
  ⟨some 9, .mov (.t 59), none, []⟩] [] false)
  (.seq (.regionJ ⟨[.slot 71 .bool], [60, 61, 62, 63, 64, 65, 66, 67, 68, 69, 70], [], []⟩ [
  ⟨some 60, .mov (.t 9), none, []⟩,
  ⟨some 61, .call false [] 252 [(.t 60)], none, []⟩,
  ⟨some 62, .mov (.t 61), none, []⟩,
  ⟨some 63, .fa 0 (.t 5), (some (62, true)), []⟩,
  ⟨some 64, .load none (.t 63), (some (62, true)), []⟩,
  ⟨some 65, .call false [] 260 [(.t 64)], (some (62, true)), []⟩,
  ⟨some 66, .mov (.t 65), (some (62, true)), []⟩,
  ⟨some 67, .mov (.t 9), (some (66, false)), []⟩,
  ⟨some 68, .call false [] 260 [(.t 67)], (some (66, false)), []⟩,
  ⟨some 69, .un .not (.t 68), (some (66, false)), []⟩,
  ⟨some 70, .pick (.t 66) (.c (.bool true)) (.t 69), (some (62, true)), []⟩,
  ⟨some 71, .pick (.t 62) (.t 70) (.c (.bool false)), none, []⟩] [] false)
  (.condJ ⟨[.slot 7 .str], [72, 73, 74], [], []⟩ (.t 71)
    (.region [
  ⟨some 72, .mov (.t 7), none, []⟩,
  ⟨some 73, .bin .str .add (.c (.string ⟨#[40]⟩)) (.t 72), none, []⟩,
  ⟨some 74, .bin .str .add (.t 73) (.c (.string ⟨#[41]⟩)), none, []⟩,
  ⟨some 7, .mov (.t 74), none, []⟩] [] false)
    (.skip))))
  (.seq (.region [
  ⟨some 75, .mov (.t 6), none, []⟩,
  ⟨some 76, .fa 0 (.t 5), none, []⟩,
  ⟨some 77, .load none (.t 76), none, []⟩,
  ⟨some 78, .bin .int .sub (.t 77) (.c (.int .i64 3)), none, []⟩,
  ⟨some 79, .fa 0 (.t 5), none, []⟩,
  ⟨some 80, .load none (.t 79), none, []⟩,
  ⟨some 81, .bin .int .sub (.t 80) (.c (.int .i64 3)), none, []⟩,
  ⟨some 82, .bin .int .add (.t 81) (.c (.int .i64 1)), none, []⟩,
  ⟨some 83, .slc 0 (.c (.string ⟨#[43, 45, 42, 47]⟩)) (some (.t 78)) (some (.t 82)), none, []⟩,
  ⟨some 84, .bin .str .add (.t 75) (.t 83), none, []⟩,
  ⟨some 85, .mov (.t 7), none, []⟩,
  ⟨some 86, .bin .str .add (.t 84) (.t 85), none, []⟩,
  ⟨some 4, .mov (.t 86), none, []⟩] [] false)
  (.ret)))))))
def tf254 : TFunc := { np := 2, nt := 87, res := [.tmp 4], own := false, body := tc254 }
noncomputable def S254 (F157 : Int → (Option ByteArray)) (F252 : Int → (Option Bool)) (F254 : (List Node) → Int → (Option ByteArray)) (F260 : Int → (Option Bool)) (a0 : (List Node)) (a1 : Int) : Option ByteArray :=
  bno (lookI a0 a1) fun y1 =>
  br (decide ((Node.op y1) = (1 : Int)))
  (bno (F157 (Node.n y1)) fun y2 =>
  some y2)
  (br (decide ((Node.op y1) = (2 : Int)))
  (some (Node.name y1))
  (bno (F254 a0 (Node.left y1)) fun y3 =>
  bno (F254 a0 (Node.right y1)) fun y4 =>
  bno (lookI a0 (Node.left y1)) fun y5 =>
  jn (σ := Bool) (α := ByteArray) (bno (F252 (Node.op y5)) fun y6 =>
  br y6
  (bno (F260 (Node.op y1)) fun y7 =>
  br y7
  (bno (F260 (Node.op y5)) fun y8 =>
  inlO (some (!y8)))
  (inlO (some false)))
  (inlO (some false))) fun x9 =>
  jn (σ := ByteArray) (α := ByteArray) (br x9
  (ck (decide (ByteArray.size (⟨#[40]⟩ : ByteArray) + ByteArray.size y3 ≤ 9223372036854775807)) <|
  ck (decide (ByteArray.size ((⟨#[40]⟩ : ByteArray) ++ y3) + ByteArray.size (⟨#[41]⟩ : ByteArray) ≤ 9223372036854775807)) <|
  inlO (some (((⟨#[40]⟩ : ByteArray) ++ y3) ++ (⟨#[41]⟩ : ByteArray))))
  (inlO (some y3))) fun x10 =>
  bno (lookI a0 (Node.right y1)) fun y11 =>
  jn (σ := Bool) (α := ByteArray) (bno (F252 (Node.op y11)) fun y12 =>
  br y12
  (bno (F260 (Node.op y1)) fun y13 =>
  br y13
  (inlO (some true))
  (bno (F260 (Node.op y11)) fun y14 =>
  inlO (some (!y14))))
  (inlO (some false))) fun x15 =>
  jn (σ := ByteArray) (α := ByteArray) (br x15
  (ck (decide (ByteArray.size (⟨#[40]⟩ : ByteArray) + ByteArray.size y4 ≤ 9223372036854775807)) <|
  ck (decide (ByteArray.size ((⟨#[40]⟩ : ByteArray) ++ y4) + ByteArray.size (⟨#[41]⟩ : ByteArray) ≤ 9223372036854775807)) <|
  inlO (some (((⟨#[40]⟩ : ByteArray) ++ y4) ++ (⟨#[41]⟩ : ByteArray))))
  (inlO (some y4))) fun x16 =>
  ck (decide (0 ≤ wi ((Node.op y1) - (3 : Int)) ∧ wi ((Node.op y1) - (3 : Int)) ≤ wi ((wi ((Node.op y1) - (3 : Int))) + (1 : Int)) ∧ wi ((wi ((Node.op y1) - (3 : Int))) + (1 : Int)) ≤ ((ByteArray.size (⟨#[43, 45, 42, 47]⟩ : ByteArray) : Nat) : Int))) <|
  ck (decide (ByteArray.size x10 + ByteArray.size (ByteArray.extract (⟨#[43, 45, 42, 47]⟩ : ByteArray) (Int.toNat (wi ((Node.op y1) - (3 : Int)))) (Int.toNat (wi ((wi ((Node.op y1) - (3 : Int))) + (1 : Int))))) ≤ 9223372036854775807)) <|
  ck (decide (ByteArray.size (x10 ++ (ByteArray.extract (⟨#[43, 45, 42, 47]⟩ : ByteArray) (Int.toNat (wi ((Node.op y1) - (3 : Int)))) (Int.toNat (wi ((wi ((Node.op y1) - (3 : Int))) + (1 : Int)))))) + ByteArray.size x16 ≤ 9223372036854775807)) <|
  some ((x10 ++ (ByteArray.extract (⟨#[43, 45, 42, 47]⟩ : ByteArray) (Int.toNat (wi ((Node.op y1) - (3 : Int)))) (Int.toNat (wi ((wi ((Node.op y1) - (3 : Int))) + (1 : Int)))))) ++ x16)))
theorem s254 (F157 : Int → (Option ByteArray)) (F252 : Int → (Option Bool)) (F254 : (List Node) → Int → (Option ByteArray)) (F260 : Int → (Option Bool)) (a0 : (List Node)) (a1 : Int) : tf254.run [⟨157, [.int], .str, fun x => F157 x, false, []⟩,
  ⟨252, [.int], .bool, fun x => F252 x, false, []⟩,
  ⟨254, [(.sl .node), .int], .str, fun x => F254 x.1 x.2, false, []⟩,
  ⟨260, [.int], .bool, fun x => F260 x, false, []⟩] [(.sl .node), .int] .str (a0, a1) = S254 F157 F252 F254 F260 a0 a1 := by kernel_rfl
noncomputable def P254n : Nat → ((List Node)) → (Int) → Option ByteArray
  | 0 => fun _ _ => none
  | i + 1 => fun a0 a1 => S254 P157 P252 (P254n i) P260 a0 a1
noncomputable def k254n (i : Nat) : CSpec := ⟨254, [(.sl .node), .int], .str, fun x => P254n i x.1 x.2, false, []⟩
theorem r254n {S : Seat} (h : Ok1 S 254 tf254) (h157 : Rt S k157) (h252 : Rt S k252) (h260 : Rt S k260) : ∀ i, Rt S (k254n i)
  | 0 => fun x y hy => (by cases hy)
  | i + 1 => fun x y hy =>
    have h254 := r254n h h157 h252 h260 i
    Ok1.sound h (C := [k157, k252, (k254n i), k260]) (CSound.cons h157 (CSound.cons h252 (CSound.cons h254 (CSound.cons h260 CSound.nil)))) rfl rfl rfl ((s254 P157 P252 (P254n i) P260 x.1 x.2).trans hy) rfl
noncomputable def P254 (a0 : (List Node)) (a1 : Int) : Option ByteArray := P254n ((Int.toNat a1) + 1) a0 a1
noncomputable def k254 : CSpec := ⟨254, [(.sl .node), .int], .str, fun x => P254 x.1 x.2, false, []⟩
theorem r254 {S : Seat} (h : Ok1 S 254 tf254) (h157 : Rt S k157) (h252 : Rt S k252) (h260 : Rt S k260) : Rt S k254 := fun x y hy => r254n h h157 h252 h260 ((Int.toNat x.2) + 1) x y hy

/- tallyhall/formula.Print -/
def tc244 : TCode :=
  .seq (.region [
  ⟨some 2, .mov (.c (.string ⟨#[]⟩)), none, []⟩,
  ⟨some 3, .mov (.c (.nilIface)), none, []⟩] [] false)
  (.seq (.seq (.region [
  ⟨some 5, .mov (.t 0), none, []⟩,
  ⟨some 6, .call false [] 241 [(.t 5)], none, []⟩,
  ⟨some 4, .mov (.t 6), none, []⟩] [] false)
  (.seq (.region [
  ⟨some 7, .mov (.t 4), none, []⟩,
  ⟨some 8, .eqn false true (.t 7), none, []⟩] [] false)
  (.cond (.t 8)
    (.seq (.region [
  ⟨some 9, .mov (.t 4), none, []⟩,
  ⟨some 2, .mov (.c (.string ⟨#[]⟩)), none, []⟩,
  ⟨some 3, .mov (.t 9), none, []⟩] [] false)
    (.ret))
    (.skip))))
  (.seq (.region [
  ⟨some 10, .mov (.t 0), none, []⟩,
  ⟨some 11, .mov (.t 0), none, []⟩,
  ⟨some 12, .len false (.t 11), none, []⟩,
  ⟨some 13, .bin .int .sub (.t 12) (.c (.int .i64 1)), none, []⟩,
  ⟨some 14, .call false [] 254 [(.t 10), (.t 13)], none, []⟩,
  ⟨some 2, .mov (.t 14), none, []⟩,
  ⟨some 3, .mov (.c (.nilIface)), none, []⟩] [] false)
  (.ret)))
def tf244 : TFunc := { np := 1, nt := 15, res := [.tmp 2, .tmp 3], own := false, body := tc244 }
noncomputable def S244 (F241 : (List Node) → (Option Err)) (F254 : (List Node) → Int → (Option ByteArray)) (a0 : (List Node)) : Option (ByteArray × Err) :=
  bno (F241 a0) fun y1 =>
  br (!(Err.isNil y1))
  (some ((⟨#[]⟩ : ByteArray), y1))
  (bno (F254 a0 (wi (((List.length a0 : Nat) : Int) - (1 : Int)))) fun y2 =>
  some (y2, Err.nil))
theorem s244 (F241 : (List Node) → (Option Err)) (F254 : (List Node) → Int → (Option ByteArray)) (a0 : (List Node)) : tf244.run [⟨241, [(.sl .node)], .err, fun x => F241 x, false, []⟩,
  ⟨254, [(.sl .node), .int], .str, fun x => F254 x.1 x.2, false, []⟩] [(.sl .node)] (.tp [.str, .err]) a0 = S244 F241 F254 a0 := by kernel_rfl
noncomputable def P244 (a0 : (List Node)) : Option (ByteArray × Err) := S244 P241 P254 a0
noncomputable def k244 : CSpec := ⟨244, [(.sl .node)], (.tp [.str, .err]), fun x => P244 x, false, []⟩
theorem r244 {S : Seat} (h : Ok1 S 244 tf244) (h241 : Rt S k241) (h254 : Rt S k254) : Rt S k244 := fun x y hy =>
  Ok1.sound h (C := [k241, k254]) (CSound.cons h241 (CSound.cons h254 CSound.nil)) rfl rfl rfl ((s244 P241 P254 x).trans hy) rfl

end Ab
