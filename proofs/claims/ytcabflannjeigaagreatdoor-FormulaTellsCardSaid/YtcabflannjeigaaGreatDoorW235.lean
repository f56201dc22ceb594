/-
  Functions of the program as typed code, what they come to, and their contracts: written by program (mk.py).
-/
import Derived.Test.YtcabflannjeigaaGreatDoorB2
import Derived.KernelRfl
import Derived.Test.YtcabflannjeigaaGreatDoorMDa
import Derived.Test.YtcabflannjeigaaGreatDoorMFm
import Derived.Test.YtcabflannjeigaaGreatDoorMFp
import Derived.Test.YtcabflannjeigaaGreatDoorMFx
import Derived.Test.YtcabflannjeigaaGreatDoorMPa
import Derived.Test.YtcabflannjeigaaGreatDoorMR4
import Derived.Test.YtcabflannjeigaaGreatDoorC1
import Derived.Test.YtcabflannjeigaaGreatDoorMS3
namespace Ab
open Go
set_option linter.unusedVariables false
set_option maxRecDepth 100000

/- tallyhall/tallylaw2.FormulaTells -/
def tc235 : TCode :=
  .seq (.region [
  ⟨some 4, .mov (.c (.bool false)), none, []⟩] [] false)
  (.seq (.region [
  ⟨some 21, .mov (.t 0), none, []⟩,
  ⟨some 22, .call false [] 240 [(.t 21)], none, []⟩,
  ⟨some 5, .mov (.t 22), none, []⟩] [] false)
  (.seq (.region [
  ⟨some 23, .mov (.t 0), none, []⟩,
  ⟨some 24, .call false [] 241 [(.t 23)], none, []⟩,
  ⟨some 25, .mov (.t 5), none, []⟩,
  ⟨some 26, .call false [] 92 [(.t 24), (.t 25)], none, []⟩,
  ⟨some 6, .mov (.t 26), none, []⟩] [] false)
  (.seq (.region [
  ⟨some 7, .mov (.c (.string ⟨#[]⟩)), none, []⟩] [] false)
  (.seq (.region [
  ⟨some 8, .mov (.c (.slice none 0 0)), none, []⟩] [] false)
  (.seq (.seq (.region [
  ⟨some 27, .mov (.t 5), none, []⟩,
  ⟨some 28, .bin .int .eql (.t 27) (.c (.int .i64 0)), none, []⟩] [] false)
  (.condJ ⟨[.slot 7 .str, .slot 8 (.sl .str)], [29, 30, 31, 32, 33, 34, 35], [], []⟩ (.t 28)
    (.seq (.region [
  ⟨some 29, .mov (.t 0), none, []⟩,
  ⟨some 30, .mov (.t 0), none, []⟩,
  ⟨some 31, .len false (.t 30), none, []⟩,
  ⟨some 32, .bin .int .sub (.t 31) (.c (.int .i64 1)), none, []⟩,
  ⟨some 33, .call false [] 242 [(.t 29), (.t 32)], none, []⟩,
  ⟨some 7, .mov (.t 33), none, []⟩] [] false)
    (.region [
  ⟨some 34, .mov (.t 0), none, []⟩,
  ⟨some 35, .call true [] 243 [(.t 34)], none, []⟩,
  ⟨some 8, .mov (.t 35), none, []⟩] [] false))
    (.skip)))
  (.seq (.region [
  ⟨some 37, .mov (.t 0), none, []⟩,
  ⟨some 38, .call false [] 244 [(.t 37)], none, []⟩,
  ⟨some 36, .mov (.t 38), none, []⟩,
  ⟨some 39, .ext (.t 36) 0, none, []⟩,
  ⟨some 40, .ext (.t 36) 1, none, []⟩,
  ⟨some 9, .mov (.t 39), none, []⟩,
  ⟨some 10, .mov (.t 40), none, []⟩] [] false)
  (.seq (.region [
  ⟨some 41, .mov (.t 10), none, []⟩,
  ⟨some 42, .mov (.t 5), none, []⟩,
  ⟨some 43, .call false [] 92 [(.t 41), (.t 42)], none, []⟩,
  ⟨some 11, .mov (.t 43), none, []⟩] [] false)
  (.seq (.region [
  ⟨some 45, .mov (.t 0), none, []⟩,
  ⟨some 46, .call true [] 245 [(.t 45)], none, []⟩,
  ⟨some 44, .mov (.t 46), none, []⟩,
  ⟨some 47, .ext (.t 44) 0, none, []⟩,
  ⟨some 48, .ext (.t 44) 1, none, []⟩,
  ⟨some 12, .mov (.t 47), none, []⟩,
  ⟨some 10, .mov (.t 48), none, []⟩] [] false)
  (.seq (.region [
  ⟨some 49, .mov (.t 10), none, []⟩,
  ⟨some 50, .mov (.t 5), none, []⟩,
  ⟨some 51, .call false [] 92 [(.t 49), (.t 50)], none, []⟩,
  ⟨some 13, .mov (.t 51), none, []⟩] [] false)
  (.seq (.region [
  ⟨some 52, .mov (.t 12), none, []⟩,
  ⟨some 53, .mov (.t 8), none, []⟩,
  ⟨some 54, .call false [] 246 [(.t 52), (.t 53)], none, []⟩,
  ⟨some 14, .mov (.t 54), none, []⟩] [] false)
  (.seq (.region [
  ⟨some 56, .mov (.t 1), none, []⟩,
  ⟨some 57, .call true [] 247 [(.t 56)], none, []⟩,
  ⟨some 55, .mov (.t 57), none, []⟩,
  ⟨some 58, .ext (.t 55) 0, none, []⟩,
  ⟨some 59, .ext (.t 55) 1, none, []⟩,
  ⟨some 60, .ext (.t 55) 2, none, []⟩,
  ⟨some 15, .mov (.t 58), none, []⟩,
  ⟨some 16, .mov (.t 59), none, []⟩,
  ⟨some 5, .mov (.t 60), none, []⟩] [] false)
  (.seq (.region [
  ⟨some 62, .mov (.t 1), none, []⟩,
  ⟨some 63, .call true [] 248 [(.t 62)], none, []⟩,
  ⟨some 61, .mov (.t 63), none, []⟩,
  ⟨some 64, .ext (.t 61) 0, none, []⟩,
  ⟨some 65, .ext (.t 61) 1, none, []⟩,
  ⟨some 66, .ext (.t 61) 2, none, []⟩,
  ⟨some 17, .mov (.t 64), none, []⟩,
  ⟨some 18, .mov (.t 65), none, []⟩,
  ⟨some 10, .mov (.t 66), none, []⟩] [] false)
  (.seq (.region [
  ⟨some 67, .mov (.t 10), none, []⟩,
  ⟨some 68, .mov (.t 5), none, []⟩,
  ⟨some 69, .call false [] 92 [(.t 67), (.t 68)], none, []⟩,
  ⟨some 19, .mov (.t 69), none, []⟩] [] false)
  (.seq (.region [
  ⟨some 70, .mov (.t 17), none, []⟩,
  ⟨some 71, .mov (.t 15), none, []⟩,
  ⟨some 72, .call false [] 249 [(.t 70), (.t 71)], none, []⟩,
  ⟨some 20, .mov (.t 72), none, []⟩] [] false)
  (.seq (.regionJ ⟨[.slot 4 .bool], [73, 74, 75, 76, 77, 78, 79, 80, 81, 82, 83, 84, 85, 86, 87, 88, 89, 90, 91, 92, 93, 94, 95, 96, 97, 98], [], []⟩ [
  ⟨some 73, .mov (.t 6), none, []⟩,
  ⟨some 74, .mov (.t 73), none, []⟩,
  ⟨some 75, .mov (.t 11), (some (74, true)), []⟩,
  ⟨some 76, .pick (.t 74) (.t 75) (.c (.bool false)), none, []⟩,
  ⟨some 77, .mov (.t 76), none, []⟩,
  ⟨some 78, .mov (.t 13), (some (77, true)), []⟩,
  ⟨some 79, .pick (.t 77) (.t 78) (.c (.bool false)), none, []⟩,
  ⟨some 80, .mov (.t 79), none, []⟩,
  ⟨some 81, .mov (.t 19), (some (80, true)), []⟩,
  ⟨some 82, .pick (.t 80) (.t 81) (.c (.bool false)), none, []⟩,
  ⟨some 83, .mov (.t 82), none, []⟩,
  ⟨some 84, .mov (.t 14), (some (83, true)), []⟩,
  ⟨some 85, .pick (.t 83) (.t 84) (.c (.bool false)), none, []⟩,
  ⟨some 86, .mov (.t 85), none, []⟩,
  ⟨some 87, .mov (.t 20), (some (86, true)), []⟩,
  ⟨some 88, .pick (.t 86) (.t 87) (.c (.bool false)), none, []⟩,
  ⟨some 89, .mov (.t 88), none, []⟩,
  ⟨some 90, .mov (.t 9), (some (89, true)), []⟩,
  ⟨some 91, .mov (.t 7), (some (89, true)), []⟩,
  ⟨some 92, .bin .str .eql (.t 90) (.t 91), (some (89, true)), []⟩,
  ⟨some 93, .pick (.t 89) (.t 92) (.c (.bool false)), none, []⟩,
  ⟨some 94, .mov (.t 93), none, []⟩,
  ⟨some 95, .mov (.t 18), (some (94, true)), []⟩,
  ⟨some 96, .mov (.t 16), (some (94, true)), []⟩,
  ⟨some 97, .bin .int .eql (.t 95) (.t 96), (some (94, true)), []⟩,
  ⟨some 98, .pick (.t 94) (.t 97) (.c (.bool false)), none, []⟩,
  ⟨some 4, .mov (.t 98), none, []⟩] [] false)
  (.ret))))))))))))))))
def tf235 : TFunc := { np := 2, nt := 99, res := [.tmp 4], own := false, body := tc235 }
noncomputable def S235 (F240 : (List Node) → (Option Int)) (F241 : (List Node) → (Option Err)) (F242 : (List Node) → Int → (Option ByteArray)) (F243 : (List Node) → (Option (List ByteArray))) (F244 : (List Node) → (Option (ByteArray × Err))) (F245 : (List Node) → (Option ((List ByteArray) × Err))) (F246 : (List ByteArray) → (List ByteArray) → (Option Bool)) (F247 : ByteArray → (Option ((List Node) × Int × Int))) (F248 : ByteArray → (Option ((List Node) × Int × Err))) (F249 : (List Node) → (List Node) → (Option Bool)) (F92 : Err → Int → (Option Bool)) (a0 : (List Node)) (a1 : ByteArray) : Option Bool :=
  bno (F240 a0) fun y1 =>
  bno (F241 a0) fun y2 =>
  bno (F92 y2 y1) fun y3 =>
  jn (σ := (ByteArray × (List ByteArray))) (α := Bool) (br (decide (y1 = (0 : Int)))
  (bno (F242 a0 (wi (((List.length a0 : Nat) : Int) - (1 : Int)))) fun y4 =>
  bno (F243 a0) fun y5 =>
  inlO (some (y4, y5)))
  (inlO (some ((⟨#[]⟩ : ByteArray), ([] : List ByteArray))))) fun x6 =>
  bno (F244 a0) fun y7 =>
  bno (F92 y7.2 y1) fun y8 =>
  bno (F245 a0) fun y9 =>
  bno (F92 y9.2 y1) fun y10 =>
  bno (F246 y9.1 x6.2) fun y11 =>
  bno (F247 a1) fun y12 =>
  bno (F248 a1) fun y13 =>
  bno (F92 y13.2.2 y12.2.2) fun y14 =>
  bno (F249 y13.1 y12.1) fun y15 =>
  jn (σ := Bool) (α := Bool) (br y3
  (br y8
  (br y10
  (br y14
  (br y11
  (br y15
  (br (decide (y7.1 = x6.1))
  (inlO (some (decide (y13.2.1 = y12.2.1))))
  (inlO (some false)))
  (inlO (some false)))
  (inlO (some false)))
  (inlO (some false)))
  (inlO (some false)))
  (inlO (some false)))
  (inlO (some false))) fun x16 =>
  some x16
theorem s235 (F240 : (List Node) → (Option Int)) (F241 : (List Node) → (Option Err)) (F242 : (List Node) → Int → (Option ByteArray)) (F243 : (List Node) → (Option (List ByteArray))) (F244 : (List Node) → (Option (ByteArray × Err))) (F245 : (List Node) → (Option ((List ByteArray) × Err))) (F246 : (List ByteArray) → (List ByteArray) → (Option Bool)) (F247 : ByteArray → (Option ((List Node) × Int × Int))) (F248 : ByteArray → (Option ((List Node) × Int × Err))) (F249 : (List Node) → (List Node) → (Option Bool)) (F92 : Err → Int → (Option Bool)) (a0 : (List Node)) (a1 : ByteArray) : tf235.run [⟨240, [(.sl .node)], .int, fun x => F240 x, false, []⟩,
  ⟨241, [(.sl .node)], .err, fun x => F241 x, false, []⟩,
  ⟨242, [(.sl .node), .int], .str, fun x => F242 x.1 x.2, false, []⟩,
  ⟨243, [(.sl .node)], (.sl .str), fun x => F243 x, false, []⟩,
  ⟨244, [(.sl .node)], (.tp [.str, .err]), fun x => F244 x, false, []⟩,
  ⟨245, [(.sl .node)], (.tp [(.sl .str), .err]), fun x => F245 x, false, []⟩,
  ⟨246, [(.sl .str), (.sl .str)], .bool, fun x => F246 x.1 x.2, false, []⟩,
  ⟨247, [.str], (.tp [(.sl .node), .int, .int]), fun x => F247 x, false, []⟩,
  ⟨248, [.str], (.tp [(.sl .node), .int, .err]), fun x => F248 x, false, []⟩,
  ⟨249, [(.sl .node), (.sl .node)], .bool, fun x => F249 x.1 x.2, false, []⟩,
  ⟨92, [.err, .int], .bool, fun x => F92 x.1 x.2, false, []⟩] [(.sl .node), .str] .bool (a0, a1) = S235 F240 F241 F242 F243 F244 F245 F246 F247 F248 F249 F92 a0 a1 := by kernel_rfl
noncomputable def P235 (a0 : (List Node)) (a1 : ByteArray) : Option Bool := S235 P240 P241 P242 P243 P244 P245 P246 P247 P248 P249 P92 a0 a1
noncomputable def k235 : CSpec := ⟨235, [(.sl .node), .str], .bool, fun x => P235 x.1 x.2, false, []⟩
theorem r235 {S : Seat} (h : Ok1 S 235 tf235) (h240 : Rt S k240) (h241 : Rt S k241) (h242 : Rt S k242) (h243 : Rt S k243) (h244 : Rt S k244) (h245 : Rt S k245) (h246 : Rt S k246) (h247 : Rt S k247) (h248 : Rt S k248) (h249 : Rt S k249) (h92 : Rt S k92) : Rt S k235 := fun x y hy =>
  Ok1.sound h (C := [k240, k241, k242, k243, k244, k245, k246, k247, k248, k249, k92]) (CSound.cons h240 (CSound.cons h241 (CSound.cons h242 (CSound.cons h243 (CSound.cons h244 (CSound.cons h245 (CSound.cons h246 (CSound.cons h247 (CSound.cons h248 (CSound.cons h249 (CSound.cons h92 CSound.nil))))))))))) rfl rfl rfl ((s235 P240 P241 P242 P243 P244 P245 P246 P247 P248 P249 P92 x.1 x.2).trans hy) rfl

end Ab
