/-
  Functions of the program as typed code, what they come to, and their contracts: written by program (mk.py).
-/
import Derived.Test.YtchidgkpkhloeaaGreatDoorB2
import Derived.KernelRfl
import Derived.Test.YtchidgkpkhloeaaGreatDoorMO
import Derived.Test.YtchidgkpkhloeaaGreatDoorF2
import Derived.Test.YtchidgkpkhloeaaGreatDoorMRe
import Derived.Test.YtchidgkpkhloeaaGreatDoorMSn
import Derived.Test.YtchidgkpkhloeaaGreatDoorMT
namespace Ab
open Go
set_option linter.unusedVariables false
set_option maxRecDepth 100000
def tc355 : TCode :=
  .seq (.region [
 oq 2 (.box (.t 0)),
 oq 4 (.mov (.c (.slice none 0 0))),
 oq 5 (.mov (.c (.nilIface)))] [] false)
  (.seq (.seq (.region [
 oq 9 (.fa 2 (.t 2)),
 oq 10 (.load none (.t 9)),
 oq 11 (.mov (.t 1)),
 oq 12 (.ia 4 (.t 10) (.t 11)),
 oq 13 (.fa 3 (.t 12)),
 oq 14 (.load none (.t 13)),
 oq 15 (.bin .str .eql (.t 14) (.c (.string ⟨#[]⟩)))] [] false)
  (.cond (.t 15)
    (.seq (.region [
 oq 4 (.mov (.c (.slice none 0 0))),
 oq 5 (.mov (.c (.nilIface)))] [] false)
    (.ret))
    (.skip)))
  (.seq (.region [
 oq 17 (.fa 2 (.t 2)),
 oq 18 (.load none (.t 17)),
 oq 19 (.mov (.t 1)),
 oq 20 (.ia 4 (.t 18) (.t 19)),
 oq 21 (.fa 3 (.t 20)),
 oq 22 (.load none (.t 21)),
 oq 23 (.call true [] 248 [(.t 22)]),
 oq 16 (.mov (.t 23)),
 oq 24 (.ext (.t 16) 0),
 oq 25 (.ext (.t 16) 1),
 oq 26 (.ext (.t 16) 2),
 oq 6 (.mov (.t 24)),
 oq 7 (.mov (.t 25)),
 oq 8 (.mov (.t 26))] [] false)
  (.seq (.region [
 oq 27 (.mov (.t 6)),
 oq 28 (.mov (.t 8)),
 oq 4 (.mov (.t 27)),
 oq 5 (.mov (.t 28))] [] false)
  (.ret))))
def tf355 : TFunc := { np := 2, nt := 29, res := [.tmp 4, .tmp 5], own := false, body := tc355 }
noncomputable def S355 (F248 : ByteArray → (Option ((List Node) × Int × Err))) (a0 : Dim) (a1 : Int) : Option ((Option (List Node)) × Err) :=
  bno (lookI (Dim.members a0) a1) fun y1 =>
  br (decide ((Member.formula y1) = (⟨#[]⟩ : ByteArray)))
  (some (none, Err.nil))
  (bno (lookI (Dim.members a0) a1) fun y2 =>
  bno (F248 (Member.formula y2)) fun y3 =>
  some (some y3.1, y3.2.2))
theorem s355 (F248 : ByteArray → (Option ((List Node) × Int × Err))) (a0 : Dim) (a1 : Int) : tf355.run [⟨248, [.str], (.tp [(.sl .node), .int, .err]), fun x => F248 x, false, []⟩] [(.st .dim), .int] (.tp [(.ns .node), .err]) (a0, a1) = S355 F248 a0 a1 := by kernel_rfl
noncomputable def P355 (a0 : Dim) (a1 : Int) : Option ((Option (List Node)) × Err) := S355 P248 a0 a1
noncomputable def k355 : CSpec := ⟨355, [(.st .dim), .int], (.tp [(.ns .node), .err]), fun x => P355 x.1 x.2, false, []⟩
theorem r355 {S : Seat} (h : Ok1 S 355 tf355) (h248 : Rt S k248) : Rt S k355 := fun x y hy =>
  Ok1.sound h (C := [k248]) (CSound.cons h248 CSound.nil) rfl rfl rfl ((s355 P248 x.1 x.2).trans hy) rfl
def tc362 : TCode :=
  .seq (.region [
 oq 4 (.mov (.c (.int .i64 0)))] [] false)
  (.seq (.seq (.region [
 oq 6 (.mov (.t 0)),
 oq 7 (.len false (.t 6)),
 oq 8 (.mov (.c (.int .i64 0)))] [] false)
  (.loop ⟨[.slot 8 .int], [5, 9, 10, 11, 12, 13, 14, 15, 16, 18], [], []⟩ 0 (.seq (.region [
 oq 9 (.bin .int .lss (.t 8) (.t 7))] [] false)
    (.seq (.cond (.t 9)
      (.skip)
      (.exit 0))
    (.seq (.block 1 (.seq (.region [
 oq 10 (.mov (.t 8)),
 oq 5 (.mov (.t 10))] [] false)
      (.seq (.region [
 oq 11 (.mov (.t 1)),
 oq 12 (.mov (.t 0)),
 oq 13 (.mov (.t 5)),
 oq 14 (.ia 1 (.t 12) (.t 13)),
 oq 15 (.load none (.t 14)),
 oq 16 (.bin .int .eql (.t 11) (.t 15))] [] false)
      (.cond (.t 16)
        (.seq (.region [
 oq 17 (.mov (.t 5)),
 oq 4 (.mov (.t 17))] [] false)
        (.ret))
        (.skip)))))
    (.region [
 oq 18 (.bin .int .add (.t 8) (.c (.int .i64 1))),
 oq 8 (.mov (.t 18))] [] false))))))
  (.seq (.region [
 oq 4 (.mov (.c (.int .i64 (-1))))] [] false)
  (.ret)))
def tf362 : TFunc := { np := 2, nt := 19, res := [.tmp 4], own := false, body := tc362 }
noncomputable def S362_L1 (a0 : (List Int)) (a1 : Int) (x1 : Int) : Option (LR Int Int) :=
  br (decide (x1 < ((List.length a0 : Nat) : Int)))
  (bno (lookI a0 x1) fun y2 =>
  br (decide (a1 = y2))
  (finO (some x1))
  (nxO (some (wi (x1 + (1 : Int))))))
  (dnO (some x1))
noncomputable def S362 (a0 : (List Int)) (a1 : Int) : Option Int :=
  lp (S362_L1 a0 a1) (0 : Int) fun x3 =>
  some (-1 : Int)
theorem s362 (a0 : (List Int)) (a1 : Int) : tf362.run [] [(.sl .int), .int] .int (a0, a1) = S362 a0 a1 := by kernel_rfl
noncomputable def P362 (a0 : (List Int)) (a1 : Int) : Option Int := S362 a0 a1
noncomputable def k362 : CSpec := ⟨362, [(.sl .int), .int], .int, fun x => P362 x.1 x.2, false, []⟩
theorem r362 {S : Seat} (h : Ok1 S 362 tf362) : Rt S k362 := fun x y hy =>
  Ok1.sound h (C := []) CSound.nil rfl rfl rfl ((s362 x.1 x.2).trans hy) rfl
def tc357 : TCode :=
  .seq (.region [
 oq 4 (.mov (.c (.bool false)))] [] false)
  (.seq (.region [
 oq 5 (.mov (.t 0)),
 oq 6 (.mov (.t 1)),
 oq 7 (.call false [] 362 [(.t 5), (.t 6)]),
 oq 8 (.bin .int .geq (.t 7) (.c (.int .i64 0))),
 oq 4 (.mov (.t 8))] [] false)
  (.ret))
def tf357 : TFunc := { np := 2, nt := 9, res := [.tmp 4], own := false, body := tc357 }
noncomputable def S357 (F362 : (List Int) → Int → (Option Int)) (a0 : (List Int)) (a1 : Int) : Option Bool :=
  bno (F362 a0 a1) fun y1 =>
  some (decide ((0 : Int) ≤ y1))
theorem s357 (F362 : (List Int) → Int → (Option Int)) (a0 : (List Int)) (a1 : Int) : tf357.run [⟨362, [(.sl .int), .int], .int, fun x => F362 x.1 x.2, false, []⟩] [(.sl .int), .int] .bool (a0, a1) = S357 F362 a0 a1 := by kernel_rfl
noncomputable def P357 (a0 : (List Int)) (a1 : Int) : Option Bool := S357 P362 a0 a1
noncomputable def k357 : CSpec := ⟨357, [(.sl .int), .int], .bool, fun x => P357 x.1 x.2, false, []⟩
theorem r357 {S : Seat} (h : Ok1 S 357 tf357) (h362 : Rt S k362) : Rt S k357 := fun x y hy =>
  Ok1.sound h (C := [k362]) (CSound.cons h362 CSound.nil) rfl rfl rfl ((s357 P362 x.1 x.2).trans hy) rfl
def tc356 : TCode :=
  .seq (.region [
 oq 3 (.box (.t 0)),
 oq 6 (.mov (.c (.slice none 0 0)))] [] false)
  (.seq (.seq (.region [
 oq 11 (.mov (.t 2)),
 oq 12 (.len false (.t 11)),
 oq 13 (.mov (.c (.int .i64 0)))] [] false)
  (.loop ⟨[.row 6 27 .int, .slot 13 .int], [8, 14, 15, 16, 17, 18, 19, 20, 21, 22, 23, 24, 25, 26, 27, 28], [8, 26], []⟩ 0 (.seq (.region [
 oq 14 (.bin .int .lss (.t 13) (.t 12))] [] false)
    (.seq (.cond (.t 14)
      (.skip)
      (.exit 0))
    (.seq (.block 1 (.seq (.region [
 oq 15 (.ia 5 (.t 11) (.t 13)),
 oq 16 (.load (some 5) (.t 15)),
 oq 8 (.alloc [.int .i64 0, .int .i64 0, .string ⟨#[]⟩, .int .i64 0, .int .i64 0]),
  ⟨none, .store 5 (.t 8) (.t 16), none, []⟩] [] false)
      (.seq (.region [
 oq 17 (.fa 0 (.t 8)),
 oq 18 (.load none (.t 17)),
 oq 19 (.bin .int .eql (.t 18) (.c (.int .i64 2)))] [] false)
      (.condJ ⟨[.row 6 27 .int], [20, 21, 22, 23, 24, 25, 26, 27], [26], []⟩ (.t 19)
        (.region [
 oq 20 (.mov (.t 6)),
 oq 21 (.fa 2 (.t 3)),
 oq 22 (.load none (.t 21)),
 oq 23 (.fa 2 (.t 8)),
 oq 24 (.load none (.t 23)),
 oq 25 (.call false [] 37 [(.t 22), (.t 24)]),
 oq 26 (.bslice false 1 [.int .i64 0] 1 [(0, (.t 25))]),
 oq 27 (.app 1 (.t 20) (.t 26)),
 oq 6 (.mov (.t 27))] [] false)
        (.skip)))))
    (.region [
 oq 28 (.bin .int .add (.t 13) (.c (.int .i64 1))),
 oq 13 (.mov (.t 28))] [] false))))))
  (.seq (.seq (.region [
 oq 29 (.mov (.t 2)),
 oq 30 (.eqn true false (.t 29))] [] false)
  (.condJ ⟨[.row 6 27 .int], [10, 31, 32, 33, 34, 35, 36, 37, 38, 39, 40, 41, 42, 43, 44, 45, 46, 47, 48, 49, 50], [48], []⟩ (.t 30)
    (.seq (.region [
 oq 31 (.load (some 3) (.t 3)),
 oq 32 (.mov (.t 1)),
 oq 33 (.call true [] 47 [(.t 31), (.t 32)]),
 oq 34 (.len false (.t 33)),
 oq 35 (.mov (.c (.int .i64 0)))] [] false)
    (.loop ⟨[.row 6 27 .int, .slot 35 .int], [10, 36, 37, 38, 39, 40, 41, 42, 43, 44, 45, 46, 47, 48, 49, 50], [48], []⟩ 2 (.seq (.region [
 oq 36 (.bin .int .lss (.t 35) (.t 34))] [] false)
      (.seq (.cond (.t 36)
        (.skip)
        (.exit 2))
      (.seq (.block 3 (.seq (.region [
 oq 37 (.ia 1 (.t 33) (.t 35)),
 oq 38 (.load none (.t 37)),
 oq 10 (.mov (.t 38))] [] false)
        (.seq (.region [
 oq 39 (.fa 2 (.t 3)),
 oq 40 (.load none (.t 39)),
 oq 41 (.mov (.t 10)),
 oq 42 (.ia 4 (.t 40) (.t 41)),
 oq 43 (.fa 2 (.t 42)),
 oq 44 (.load none (.t 43)),
 oq 45 (.bin .int .neq (.t 44) (.c (.int .i64 0)))] [] false)
        (.condJ ⟨[.row 6 27 .int], [46, 47, 48, 49], [48], []⟩ (.t 45)
          (.region [
 oq 46 (.mov (.t 6)),
 oq 47 (.mov (.t 10)),
 oq 48 (.bslice false 1 [.int .i64 0] 1 [(0, (.t 47))]),
 oq 49 (.app 1 (.t 46) (.t 48)),
 oq 6 (.mov (.t 49))] [] false)
          (.skip)))))
      (.region [
 oq 50 (.bin .int .add (.t 35) (.c (.int .i64 1))),
 oq 35 (.mov (.t 50))] [] false))))))
    (.skip)))
  (.seq (.region [
 oq 51 (.mov (.t 6)),
 oq 52 (.call false [0] 213 [(.t 51)])] [] false)
  (.seq (.region [
 oq 53 (.mov (.t 6)),
 oq 54 (.call true [1000] 302 [(.t 53)]),
 oq 6 (.mov (.t 54))] [] false)
  (.ret)))))
def tf356 : TFunc := { np := 3, nt := 55, res := [.tmp 6], own := false, body := tc356 }
noncomputable def S356_L1 (F37 : (List Member) → ByteArray → (Option Int)) (a0 : Dim) (a2 : (Option (List Node))) (x1 : ((List Int) × Int)) : Option (LR ((List Int) × Int) (List Int)) :=
  br (decide (x1.2 < ((List.length (Option.getD a2 ([])) : Nat) : Int)))
  (bno (lookI (Option.getD a2 ([])) x1.2) fun y2 =>
  jn (σ := (List Int)) (α := (LR ((List Int) × Int) (List Int))) (br (decide ((Node.op y2) = (2 : Int)))
  (bno (F37 (Dim.members a0) (Node.name y2)) fun y3 =>
  ck (decide (List.length x1.1 + List.length ([y3] : List Int) ≤ roomA)) <|
  inlO (some (x1.1 ++ ([y3] : List Int))))
  (inlO (some x1.1))) fun x4 =>
  nxO (some (x4, wi (x1.2 + (1 : Int)))))
  (dnO (some (x1.1, x1.2)))
noncomputable def S356_L2 (a0 : Dim) (y6 : (List Int)) (x7 : ((List Int) × Int)) : Option (LR ((List Int) × Int) (Sum (List Int) (List Int))) :=
  br (decide (x7.2 < ((List.length y6 : Nat) : Int)))
  (bno (lookI y6 x7.2) fun y8 =>
  bno (lookI (Dim.members a0) y8) fun y9 =>
  jn (σ := (List Int)) (α := (LR ((List Int) × Int) (Sum (List Int) (List Int)))) (br (decide (¬ (Member.sign y9) = (0 : Int)))
  (ck (decide (List.length x7.1 + List.length ([y8] : List Int) ≤ roomA)) <|
  inlO (some (x7.1 ++ ([y8] : List Int))))
  (inlO (some x7.1))) fun x10 =>
  nxO (some (x10, wi (x7.2 + (1 : Int)))))
  (dnO (some (x7.1, x7.2)))
noncomputable def S356 (F213 : (List Int) → (Option (List Int))) (F302 : (List Int) → (Option (List Int))) (F37 : (List Member) → ByteArray → (Option Int)) (F47 : Dim → Int → (Option (List Int))) (a0 : Dim) (a1 : Int) (a2 : (Option (List Node))) : Option (List Int) :=
  lp (S356_L1 F37 a0 a2) (([] : List Int), (0 : Int)) fun x5 =>
  ck (match (a2 : Option (List Node)) with | some xs => !xs.isEmpty | none => true) <|
  jn (σ := (List Int)) (α := (List Int)) (br (Option.isNone a2)
  (bno (F47 a0 a1) fun y6 =>
  lp (S356_L2 a0 y6) (x5.1, (0 : Int)) fun x11 =>
  inlO (some x11.1))
  (inlO (some x5.1))) fun x12 =>
  bno (F213 x12) fun y13 =>
  ck (decide (List.length y13 = List.length x12)) <|
  bno (F302 y13) fun y14 =>
  some y14
theorem s356 (F213 : (List Int) → (Option (List Int))) (F302 : (List Int) → (Option (List Int))) (F37 : (List Member) → ByteArray → (Option Int)) (F47 : Dim → Int → (Option (List Int))) (a0 : Dim) (a1 : Int) (a2 : (Option (List Node))) : tf356.run [⟨213, [(.own .int)], (.own .int), fun x => F213 x, false, [0]⟩,
  ⟨302, [(.own .int)], (.own .int), fun x => F302 x, false, [1000]⟩,
  ⟨37, [(.sl .member), .str], .int, fun x => F37 x.1 x.2, false, []⟩,
  ⟨47, [(.st .dim), .int], (.sl .int), fun x => F47 x.1 x.2, false, []⟩] [(.st .dim), .int, (.ns .node)] (.sl .int) (a0, a1, a2) = S356 F213 F302 F37 F47 a0 a1 a2 := by kernel_rfl
noncomputable def P356 (a0 : Dim) (a1 : Int) (a2 : (Option (List Node))) : Option (List Int) := S356 P213 P302 P37 P47 a0 a1 a2
noncomputable def k356 : CSpec := ⟨356, [(.st .dim), .int, (.ns .node)], (.sl .int), fun x => P356 x.1 x.2.1 x.2.2, false, []⟩
theorem r356 {S : Seat} (h : Ok1 S 356 tf356) (h213 : Rt S k213) (h302 : Rt S k302) (h37 : Rt S k37) (h47 : Rt S k47) : Rt S k356 := fun x y hy =>
  Ok1.sound h (C := [k213, k302, k37, k47]) (CSound.cons h213 (CSound.cons h302 (CSound.cons h37 (CSound.cons h47 CSound.nil)))) rfl rfl rfl ((s356 P213 P302 P37 P47 x.1 x.2.1 x.2.2).trans hy) rfl
def tc340 : TCode :=
  .seq (.region [
 oq 1 (.box (.t 0)),
 oq 2 (.mov (.c (.slice none 0 0))),
 oq 3 (.mov (.c (.int .i64 0))),
 oq 4 (.mov (.c (.nilIface)))] [] false)
  (.seq (.seq (.region [
 oq 14 (.load (some 3) (.t 1)),
 oq 15 (.call false [] 15 [(.t 14)]),
 oq 13 (.mov (.t 15)),
 oq 16 (.ext (.t 13) 0),
 oq 17 (.ext (.t 13) 1),
 oq 5 (.mov (.t 16)),
 oq 6 (.mov (.t 17))] [] false)
  (.seq (.region [
 oq 18 (.mov (.t 6)),
 oq 19 (.eqn false true (.t 18))] [] false)
  (.cond (.t 19)
    (.seq (.region [
 oq 20 (.mov (.t 5)),
 oq 21 (.mov (.t 6)),
 oq 2 (.mov (.c (.slice none 0 0))),
 oq 3 (.mov (.t 20)),
 oq 4 (.mov (.t 21))] [] false)
    (.ret))
    (.skip))))
  (.seq (.region [
 oq 7 (.mov (.c (.slice none 0 0)))] [] false)
  (.seq (.seq (.region [
 oq 22 (.fa 2 (.t 1)),
 oq 23 (.load none (.t 22)),
 oq 24 (.len false (.t 23)),
 oq 25 (.mov (.c (.int .i64 0)))] [] false)
  (.loop ⟨[.row 7 49 (.sl .int), .slot 25 .int], [8, 9, 10, 11, 26, 27, 28, 29, 30, 31, 32, 33, 34, 35, 38, 39, 40, 41, 42, 43, 46, 47, 48, 49, 50], [48], []⟩ 0 (.seq (.region [
 oq 26 (.bin .int .lss (.t 25) (.t 24))] [] false)
    (.seq (.cond (.t 26)
      (.skip)
      (.exit 0))
    (.seq (.block 1 (.seq (.region [
 oq 27 (.mov (.t 25)),
 oq 8 (.mov (.t 27))] [] false)
      (.seq (.region [
 oq 29 (.load (some 3) (.t 1)),
 oq 30 (.mov (.t 8)),
 oq 31 (.call true [] 355 [(.t 29), (.t 30)]),
 oq 28 (.mov (.t 31)),
 oq 32 (.ext (.t 28) 0),
 oq 33 (.ext (.t 28) 1),
 oq 9 (.mov (.t 32)),
 oq 10 (.mov (.t 33))] [] false)
      (.seq (.seq (.region [
 oq 34 (.mov (.t 10)),
 oq 35 (.eqn false true (.t 34))] [] false)
      (.cond (.t 35)
        (.seq (.region [
 oq 36 (.mov (.t 8)),
 oq 37 (.mov (.t 10)),
 oq 2 (.mov (.c (.slice none 0 0))),
 oq 3 (.mov (.t 36)),
 oq 4 (.mov (.t 37))] [] false)
        (.ret))
        (.skip)))
      (.seq (.region [
 oq 38 (.load (some 3) (.t 1)),
 oq 39 (.mov (.t 8)),
 oq 40 (.mov (.t 9)),
 oq 41 (.call true [] 356 [(.t 38), (.t 39), (.t 40)]),
 oq 11 (.mov (.t 41))] [] false)
      (.seq (.seq (.region [
 oq 42 (.mov (.t 11)),
 oq 43 (.call false [] 357 [(.t 42), (.c (.int .i64 (-1)))])] [] false)
      (.cond (.t 43)
        (.seq (.region [
 oq 44 (.mov (.t 8)),
 oq 45 (.ifc 1 (.c (.int .i64 5))),
 oq 2 (.mov (.c (.slice none 0 0))),
 oq 3 (.mov (.t 44)),
 oq 4 (.mov (.t 45))] [] false)
        (.ret))
        (.skip)))
      (.region [
 oq 46 (.mov (.t 7)),
 oq 47 (.mov (.t 11)),
 oq 48 (.bslice true 1 [.slice none 0 0] 1 [(0, (.t 47))]),
 oq 49 (.app 1 (.t 46) (.t 48)),
 oq 7 (.mov (.t 49))] [.int, .int, (.sl .int), (.sl .int)] false)))))))
    (.region [
 oq 50 (.bin .int .add (.t 25) (.c (.int .i64 1))),
 oq 25 (.mov (.t 50))] [] false))))))
  (.seq (.seq (.region [
 oq 51 (.fa 2 (.t 1)),
 oq 52 (.load none (.t 51)),
 oq 53 (.len false (.t 52)),
 oq 54 (.mov (.c (.int .i64 0)))] [] false)
  (.loop ⟨[.slot 54 .int], [12, 55, 56, 57, 58, 59, 62], [], []⟩ 2 (.seq (.region [
 oq 55 (.bin .int .lss (.t 54) (.t 53))] [] false)
    (.seq (.cond (.t 55)
      (.skip)
      (.exit 2))
    (.seq (.block 3 (.seq (.region [
 oq 56 (.mov (.t 54)),
 oq 12 (.mov (.t 56))] [] false)
      (.seq (.region [
 oq 57 (.mov (.t 7)),
 oq 58 (.mov (.t 12)),
 oq 59 (.call false [] 303 [(.t 57), (.t 58)])] [] false)
      (.cond (.t 59)
        (.seq (.region [
 oq 60 (.mov (.t 12)),
 oq 61 (.ifc 1 (.c (.int .i64 8))),
 oq 2 (.mov (.c (.slice none 0 0))),
 oq 3 (.mov (.t 60)),
 oq 4 (.mov (.t 61))] [] false)
        (.ret))
        (.skip)))))
    (.region [
 oq 62 (.bin .int .add (.t 54) (.c (.int .i64 1))),
 oq 54 (.mov (.t 62))] [] false))))))
  (.seq (.region [
 oq 63 (.mov (.t 7)),
 oq 2 (.mov (.t 63)),
 oq 3 (.mov (.c (.int .i64 (-1)))),
 oq 4 (.mov (.c (.nilIface)))] [] false)
  (.ret))))))
def tf340 : TFunc := { np := 1, nt := 64, res := [.tmp 2, .tmp 3, .tmp 4], own := false, body := tc340 }
noncomputable def S340_L1 (F355 : Dim → Int → (Option ((Option (List Node)) × Err))) (F356 : Dim → Int → (Option (List Node)) → (Option (List Int))) (F357 : (List Int) → Int → (Option Bool)) (a0 : Dim) (x2 : ((List (List Int)) × Int)) : Option (LR ((List (List Int)) × Int) ((List (List Int)) × Int × Err)) :=
  br (decide (x2.2 < ((List.length (Dim.members a0) : Nat) : Int)))
  (bno (F355 a0 x2.2) fun y3 =>
  br (!(Err.isNil y3.2))
  (finO (some (([] : List (List Int)), x2.2, y3.2)))
  (bno (F356 a0 x2.2 y3.1) fun y4 =>
  bno (F357 y4 (-1 : Int)) fun y5 =>
  br y5
  (finO (some (([] : List (List Int)), x2.2, Err.no (5 : Int))))
  (ck (decide (List.length x2.1 + List.length ([y4] : List (List Int)) ≤ roomA)) <|
  nxO (some (x2.1 ++ ([y4] : List (List Int)), wi (x2.2 + (1 : Int)))))))
  (dnO (some (x2.1, x2.2)))
noncomputable def S340_L2 (F303 : (List (List Int)) → Int → (Option Bool)) (a0 : Dim) (x6 : ((List (List Int)) × Int)) (x7 : Int) : Option (LR Int ((List (List Int)) × Int × Err)) :=
  br (decide (x7 < ((List.length (Dim.members a0) : Nat) : Int)))
  (bno (F303 x6.1 x7) fun y8 =>
  br y8
  (finO (some (([] : List (List Int)), x7, Err.no (8 : Int))))
  (nxO (some (wi (x7 + (1 : Int))))))
  (dnO (some x7))
noncomputable def S340 (F15 : Dim → (Option (Int × Err))) (F303 : (List (List Int)) → Int → (Option Bool)) (F355 : Dim → Int → (Option ((Option (List Node)) × Err))) (F356 : Dim → Int → (Option (List Node)) → (Option (List Int))) (F357 : (List Int) → Int → (Option Bool)) (a0 : Dim) : Option ((List (List Int)) × Int × Err) :=
  bno (F15 a0) fun y1 =>
  br (!(Err.isNil y1.2))
  (some (([] : List (List Int)), y1.1, y1.2))
  (lp (S340_L1 F355 F356 F357 a0) (([] : List (List Int)), (0 : Int)) fun x6 =>
  lp (S340_L2 F303 a0 x6) (0 : Int) fun x9 =>
  some (x6.1, (-1 : Int), Err.nil))
theorem s340 (F15 : Dim → (Option (Int × Err))) (F303 : (List (List Int)) → Int → (Option Bool)) (F355 : Dim → Int → (Option ((Option (List Node)) × Err))) (F356 : Dim → Int → (Option (List Node)) → (Option (List Int))) (F357 : (List Int) → Int → (Option Bool)) (a0 : Dim) : tf340.run [⟨15, [(.st .dim)], (.tp [.int, .err]), fun x => F15 x, false, []⟩,
  ⟨303, [(.sl (.sl .int)), .int], .bool, fun x => F303 x.1 x.2, false, []⟩,
  ⟨355, [(.st .dim), .int], (.tp [(.ns .node), .err]), fun x => F355 x.1 x.2, false, []⟩,
  ⟨356, [(.st .dim), .int, (.ns .node)], (.sl .int), fun x => F356 x.1 x.2.1 x.2.2, false, []⟩,
  ⟨357, [(.sl .int), .int], .bool, fun x => F357 x.1 x.2, false, []⟩] [(.st .dim)] (.tp [(.sl (.sl .int)), .int, .err]) a0 = S340 F15 F303 F355 F356 F357 a0 := by kernel_rfl
noncomputable def P340 (a0 : Dim) : Option ((List (List Int)) × Int × Err) := S340 P15 P303 P355 P356 P357 a0
noncomputable def k340 : CSpec := ⟨340, [(.st .dim)], (.tp [(.sl (.sl .int)), .int, .err]), fun x => P340 x, false, []⟩
theorem r340 {S : Seat} (h : Ok1 S 340 tf340) (h15 : Rt S k15) (h303 : Rt S k303) (h355 : Rt S k355) (h356 : Rt S k356) (h357 : Rt S k357) : Rt S k340 := fun x y hy =>
  Ok1.sound h (C := [k15, k303, k355, k356, k357]) (CSound.cons h15 (CSound.cons h303 (CSound.cons h355 (CSound.cons h356 (CSound.cons h357 CSound.nil))))) rfl rfl rfl ((s340 P15 P303 P355 P356 P357 x).trans hy) rfl
def tc358 : TCode :=
  .seq (.region [
 oq 3 (.mov (.c (.bool false)))] [] false)
  (.seq (.region [
 oq 4 (.load none (.t 1)),
 oq 5 (.mov (.t 0)),
 oq 6 (.ia 1 (.t 4) (.t 5)),
 oq 7 (.load none (.t 6)),
 oq 8 (.un .not (.t 7)),
 oq 3 (.mov (.t 8))] [] false)
  (.ret))
def tf358 : TFunc := { np := 2, nt := 9, res := [.tmp 3], own := false, body := tc358 }
noncomputable def S358 (a0 : Int) (a1 : (List Bool)) : Option Bool :=
  bno (lookI a1 a0) fun y1 =>
  some (!y1)
theorem s358 (a0 : Int) (a1 : (List Bool)) : tf358.run [] [.int, (.bx (.sl .bool))] .bool (a0, a1) = S358 a0 a1 := by kernel_rfl
noncomputable def P358 (a0 : Int) (a1 : (List Bool)) : Option Bool := S358 a0 a1
noncomputable def k358 : CSpec := ⟨358, [.int, (.bx (.sl .bool))], .bool, fun x => P358 x.1 x.2, false, []⟩
theorem r358 {S : Seat} (h : Ok1 S 358 tf358) : Rt S k358 := fun x y hy =>
  Ok1.sound h (C := []) CSound.nil rfl rfl rfl ((s358 x.1 x.2).trans hy) rfl
def tc359 : TCode :=
  .seq (.region [
 oq 4 (.mov (.c (.int .i64 0)))] [] false)
  (.seq (.seq (.region [
 oq 6 (.mov (.t 0)),
 oq 7 (.len false (.t 6)),
 oq 8 (.mov (.c (.int .i64 0)))] [] false)
  (.loop ⟨[.slot 8 .int], [5, 9, 10, 11, 12, 13, 14, 15, 16, 18], [], []⟩ 0 (.seq (.region [
 oq 9 (.bin .int .lss (.t 8) (.t 7))] [] false)
    (.seq (.cond (.t 9)
      (.skip)
      (.exit 0))
    (.seq (.block 1 (.seq (.region [
 oq 10 (.mov (.t 8)),
 oq 5 (.mov (.t 10))] [] false)
      (.seq (.region [
 oq 11 (.mov (.t 1)),
 oq 12 (.mov (.t 0)),
 oq 13 (.mov (.t 5)),
 oq 14 (.ia 1 (.t 12) (.t 13)),
 oq 15 (.load none (.t 14)),
 oq 16 (.calld false (.t 11) [(.t 15)])] [] false)
      (.cond (.t 16)
        (.seq (.region [
 oq 17 (.mov (.t 5)),
 oq 4 (.mov (.t 17))] [] false)
        (.ret))
        (.skip)))))
    (.region [
 oq 18 (.bin .int .add (.t 8) (.c (.int .i64 1))),
 oq 8 (.mov (.t 18))] [] false))))))
  (.seq (.region [
 oq 4 (.mov (.c (.int .i64 (-1))))] [] false)
  (.ret)))
def tf359 : TFunc := { np := 2, nt := 19, res := [.tmp 4], own := false, body := tc359 }
noncomputable def S359_358_L1 (F358 : Int → (List Bool) → (Option Bool)) (a0 : (List Int)) (a1 : (List Bool)) (x1 : Int) : Option (LR Int Int) :=
  br (decide (x1 < ((List.length a0 : Nat) : Int)))
  (bno (lookI a0 x1) fun y2 =>
  bno (F358 y2 a1) fun y3 =>
  br y3
  (finO (some x1))
  (nxO (some (wi (x1 + (1 : Int))))))
  (dnO (some x1))
noncomputable def S359_358 (F358 : Int → (List Bool) → (Option Bool)) (a0 : (List Int)) (a1 : (List Bool)) : Option Int :=
  lp (S359_358_L1 F358 a0 a1) (0 : Int) fun x4 =>
  some (-1 : Int)
theorem s359_358 (F358 : Int → (List Bool) → (Option Bool)) (a0 : (List Int)) (a1 : (List Bool)) : tf359.run [⟨358, [.int, (.bx (.sl .bool))], .bool, fun x => F358 x.1 x.2, false, []⟩] [(.sl .int), (.fnc 358 [(.bx (.sl .bool))])] .int (a0, a1) = S359_358 F358 a0 a1 := by kernel_rfl
noncomputable def P359_358 (a0 : (List Int)) (a1 : (List Bool)) : Option Int := S359_358 P358 a0 a1
noncomputable def k359_358 : CSpec := ⟨359, [(.sl .int), (.fnc 358 [(.bx (.sl .bool))])], .int, fun x => P359_358 x.1 x.2, false, []⟩
theorem r359_358 {S : Seat} (h : Ok1 S 359 tf359) (h358 : Rt S k358) : Rt S k359_358 := fun x y hy =>
  Ok1.sound h (C := [k358]) (CSound.cons h358 CSound.nil) rfl rfl rfl ((s359_358 P358 x.1 x.2).trans hy) rfl
def tc345 : TCode :=
  .seq (.region [
 oq 4 (.mov (.c (.bool false)))] [] false)
  (.seq (.region [
 oq 5 (.mov (.t 0)),
 oq 6 (.mov (.t 1)),
 oq 7 (.call false [] 359 [(.t 5), (.t 6)]),
 oq 8 (.bin .int .geq (.t 7) (.c (.int .i64 0))),
 oq 4 (.mov (.t 8))] [] false)
  (.ret))
def tf345 : TFunc := { np := 2, nt := 9, res := [.tmp 4], own := false, body := tc345 }
noncomputable def S345_358 (F359_358 : (List Int) → (List Bool) → (Option Int)) (a0 : (List Int)) (a1 : (List Bool)) : Option Bool :=
  bno (F359_358 a0 a1) fun y1 =>
  some (decide ((0 : Int) ≤ y1))
theorem s345_358 (F359_358 : (List Int) → (List Bool) → (Option Int)) (a0 : (List Int)) (a1 : (List Bool)) : tf345.run [⟨359, [(.sl .int), (.fnc 358 [(.bx (.sl .bool))])], .int, fun x => F359_358 x.1 x.2, false, []⟩] [(.sl .int), (.fnc 358 [(.bx (.sl .bool))])] .bool (a0, a1) = S345_358 F359_358 a0 a1 := by kernel_rfl
noncomputable def P345_358 (a0 : (List Int)) (a1 : (List Bool)) : Option Bool := S345_358 P359_358 a0 a1
noncomputable def k345_358 : CSpec := ⟨345, [(.sl .int), (.fnc 358 [(.bx (.sl .bool))])], .bool, fun x => P345_358 x.1 x.2, false, []⟩
theorem r345_358 {S : Seat} (h : Ok1 S 345 tf345) (h359_358 : Rt S k359_358) : Rt S k345_358 := fun x y hy =>
  Ok1.sound h (C := [k359_358]) (CSound.cons h359_358 CSound.nil) rfl rfl rfl ((s345_358 P359_358 x.1 x.2).trans hy) rfl
def tc341 : TCode :=
  .seq (.region [
 oq 2 (.mov (.c (.slice none 0 0)))] [] false)
  (.seq (.region [
 oq 6 (.mov (.t 0)),
 oq 7 (.len false (.t 6)),
 oq 8 (.mksl 1 [.bool false] (.t 7) (.t 7)),
 oq 3 (.alloc [.slice none 0 0]),
  ⟨none, .store 1 (.t 3) (.t 8), none, []⟩] [.int, .int, .bool] false)
  (.seq (.region [
 oq 4 (.mov (.c (.slice none 0 0)))] [] false)
  (.seq (.loop ⟨[.row 4 39 .int, .rowH 8 .bool], [5, 9, 10, 11, 12, 13, 14, 15, 16, 17, 18, 19, 20, 21, 22, 23, 24, 25, 26, 27, 28, 29, 30, 31, 32, 33, 34, 35, 36, 37, 38, 39, 40], [38], []⟩ 0 (.seq (.seq (.region [
 oq 9 (.mov (.t 4)),
 oq 10 (.len false (.t 9)),
 oq 11 (.mov (.t 0)),
 oq 12 (.len false (.t 11)),
 oq 13 (.bin .int .lss (.t 10) (.t 12))] [] false)
    (.cond (.t 13)
      (.skip)
      (.exit 0)))
    (.block 1 (.seq (.region [
 oq 14 (.mov (.t 0)),
 oq 15 (.len false (.t 14)),
 oq 16 (.mov (.c (.int .i64 0)))] [] false)
      (.loop ⟨[.row 4 39 .int, .slot 16 .int, .rowH 8 .bool], [5, 17, 18, 19, 20, 21, 22, 23, 24, 25, 26, 27, 28, 29, 30, 31, 32, 33, 34, 35, 36, 37, 38, 39, 40], [38], []⟩ 2 (.seq (.region [
 oq 17 (.bin .int .lss (.t 16) (.t 15))] [] false)
        (.seq (.cond (.t 17)
          (.skip)
          (.exit 2))
        (.seq (.block 3 (.seq (.region [
 oq 18 (.mov (.t 16)),
 oq 5 (.mov (.t 18))] [] false)
          (.seq (.regionJ ⟨[.slot 32 .bool], [19, 20, 21, 22, 23, 24, 25, 26, 27, 28, 29, 30, 31], [], []⟩ [
 oq 19 (.load none (.t 3)),
 oq 20 (.mov (.t 5)),
 oq 21 (.ia 1 (.t 19) (.t 20)),
 oq 22 (.load none (.t 21)),
 oq 23 (.un .not (.t 22)),
 oq 24 (.mov (.t 23)),
  ⟨some 25, .mov (.t 0), (some (24, true)), []⟩,
  ⟨some 26, .mov (.t 5), (some (24, true)), []⟩,
  ⟨some 27, .ia 1 (.t 25) (.t 26), (some (24, true)), []⟩,
  ⟨some 28, .load none (.t 27), (some (24, true)), []⟩,
  ⟨some 29, .mkfn 358 [(.t 3)], (some (24, true)), []⟩,
  ⟨some 30, .call false [] 345 [(.t 28), (.t 29)], (some (24, true)), []⟩,
  ⟨some 31, .un .not (.t 30), (some (24, true)), []⟩,
 oq 32 (.pick (.t 24) (.t 31) (.c (.bool false)))] [] false)
          (.cond (.t 32)
            (.seq (.region [
 oq 33 (.load none (.t 3)),
 oq 34 (.mov (.t 5)),
 oq 35 (.ia 1 (.t 33) (.t 34)),
  ⟨none, .store 1 (.t 35) (.c (.bool true)), none, []⟩] [] false)
            (.seq (.region [
 oq 36 (.mov (.t 4)),
 oq 37 (.mov (.t 5)),
 oq 38 (.bslice false 1 [.int .i64 0] 1 [(0, (.t 37))]),
 oq 39 (.app 1 (.t 36) (.t 38)),
 oq 4 (.mov (.t 39))] [] false)
            (.exit 2)))
            (.skip)))))
        (.region [
 oq 40 (.bin .int .add (.t 16) (.c (.int .i64 1))),
 oq 16 (.mov (.t 40))] [] false)))))))))
  (.seq (.region [
 oq 41 (.mov (.t 4)),
 oq 2 (.mov (.t 41))] [] false)
  (.ret)))))
def tf341 : TFunc := { np := 1, nt := 42, res := [.tmp 2], own := false, body := tc341 }
noncomputable def S341_L1 (F345_358 : (List Int) → (List Bool) → (Option Bool)) (a0 : (List (List Int))) (x2 : ((List Int) × Int × (List Bool))) : Option (LR ((List Int) × Int × (List Bool)) (LR ((List Int) × (List Bool)) (List Int))) :=
  br (decide (x2.2.1 < ((List.length a0 : Nat) : Int)))
  (jn (σ := Bool) (α := (LR ((List Int) × Int × (List Bool)) (LR ((List Int) × (List Bool)) (List Int)))) (ck (decide (0 ≤ x2.2.1 ∧ x2.2.1 < ((List.length x2.2.2 : Nat) : Int))) <|
  bno ((x2.2.2)[(Int.toNat x2.2.1)]?) fun y3 =>
  br (!y3)
  (bno (lookI a0 x2.2.1) fun y4 =>
  bno (F345_358 y4 x2.2.2) fun y5 =>
  inlO (some (!y5)))
  (inlO (some false))) fun x6 =>
  br x6
  (ck (decide (0 ≤ x2.2.1 ∧ x2.2.1 < ((List.length x2.2.2 : Nat) : Int))) <|
  bno ((x2.2.2)[(Int.toNat x2.2.1)]?) fun y7 =>
  ck (decide (List.length x2.1 + List.length ([x2.2.1] : List Int) ≤ roomA)) <|
  dnO (some (x2.1 ++ ([x2.2.1] : List Int), x2.2.1, List.set x2.2.2 (Int.toNat x2.2.1) true)))
  (nxO (some (x2.1, wi (x2.2.1 + (1 : Int)), x2.2.2))))
  (dnO (some (x2.1, x2.2.1, x2.2.2)))
noncomputable def S341_L2 (F345_358 : (List Int) → (List Bool) → (Option Bool)) (a0 : (List (List Int))) (x1 : ((List Int) × (List Bool))) : Option (LR ((List Int) × (List Bool)) (List Int)) :=
  br (decide (((List.length x1.1 : Nat) : Int) < ((List.length a0 : Nat) : Int)))
  (lp (S341_L1 F345_358 a0) (x1.1, (0 : Int), x1.2) fun x8 =>
  nxO (some (x8.1, x8.2.2)))
  (dnO (some (x1.1, x1.2)))
noncomputable def S341 (F345_358 : (List Int) → (List Bool) → (Option Bool)) (a0 : (List (List Int))) : Option (List Int) :=
  ck (decide (0 ≤ ((List.length a0 : Nat) : Int) ∧ ((List.length a0 : Nat) : Int) ≤ ((List.length a0 : Nat) : Int) ∧ ((List.length a0 : Nat) : Int) ≤ roomA)) <|
  lp (S341_L2 F345_358 a0) (([] : List Int), List.replicate (Int.toNat ((List.length a0 : Nat) : Int)) false) fun x9 =>
  some x9.1
theorem s341 (F345_358 : (List Int) → (List Bool) → (Option Bool)) (a0 : (List (List Int))) : tf341.run [⟨345, [(.sl .int), (.fnc 358 [(.bx (.sl .bool))])], .bool, fun x => F345_358 x.1 x.2, false, []⟩] [(.sl (.sl .int))] (.sl .int) a0 = S341 F345_358 a0 := by kernel_rfl
noncomputable def P341 (a0 : (List (List Int))) : Option (List Int) := S341 P345_358 a0
noncomputable def k341 : CSpec := ⟨341, [(.sl (.sl .int))], (.sl .int), fun x => P341 x, false, []⟩
theorem r341 {S : Seat} (h : Ok1 S 341 tf341) (h345_358 : Rt S k345_358) : Rt S k341 := fun x y hy =>
  Ok1.sound h (C := [k345_358]) (CSound.cons h345_358 CSound.nil) rfl rfl rfl ((s341 P345_358 x).trans hy) rfl
def tc315 : TCode :=
  .seq (.region [
 oq 1 (.box (.t 0)),
 oq 2 (.mov (.c (.int .i64 0))),
 oq 3 (.mov (.c (.nilIface)))] [] false)
  (.seq (.region [
 oq 8 (.load (some 3) (.t 1)),
 oq 9 (.call true [] 340 [(.t 8)]),
 oq 7 (.mov (.t 9)),
 oq 10 (.ext (.t 7) 0),
 oq 11 (.ext (.t 7) 1),
 oq 12 (.ext (.t 7) 2),
 oq 4 (.mov (.t 10)),
 oq 5 (.mov (.t 11)),
 oq 6 (.mov (.t 12))] [] false)
  (.seq (.region [
 oq 13 (.mov (.t 5)),
 oq 14 (.mov (.t 6)),
 oq 2 (.mov (.t 13)),
 oq 3 (.mov (.t 14))] [] false)
  (.ret)))
def tf315 : TFunc := { np := 1, nt := 15, res := [.tmp 2, .tmp 3], own := false, body := tc315 }
noncomputable def S315 (F340 : Dim → (Option ((List (List Int)) × Int × Err))) (a0 : Dim) : Option (Int × Err) :=
  bno (F340 a0) fun y1 =>
  some (y1.2.1, y1.2.2)
theorem s315 (F340 : Dim → (Option ((List (List Int)) × Int × Err))) (a0 : Dim) : tf315.run [⟨340, [(.st .dim)], (.tp [(.sl (.sl .int)), .int, .err]), fun x => F340 x, false, []⟩] [(.st .dim)] (.tp [.int, .err]) a0 = S315 F340 a0 := by kernel_rfl
noncomputable def P315 (a0 : Dim) : Option (Int × Err) := S315 P340 a0
noncomputable def k315 : CSpec := ⟨315, [(.st .dim)], (.tp [.int, .err]), fun x => P315 x, false, []⟩
theorem r315 {S : Seat} (h : Ok1 S 315 tf315) (h340 : Rt S k340) : Rt S k315 := fun x y hy =>
  Ok1.sound h (C := [k340]) (CSound.cons h340 CSound.nil) rfl rfl rfl ((s315 P340 x).trans hy) rfl
def tc316 : TCode :=
  .seq (.region [
 oq 1 (.box (.t 0)),
 oq 2 (.mov (.c (.slice none 0 0))),
 oq 3 (.mov (.c (.nilIface)))] [] false)
  (.seq (.region [
 oq 8 (.load (some 3) (.t 1)),
 oq 9 (.call true [] 340 [(.t 8)]),
 oq 7 (.mov (.t 9)),
 oq 10 (.ext (.t 7) 0),
 oq 11 (.ext (.t 7) 1),
 oq 12 (.ext (.t 7) 2),
 oq 4 (.mov (.t 10)),
 oq 5 (.mov (.t 11)),
 oq 6 (.mov (.t 12))] [] false)
  (.seq (.seq (.region [
 oq 13 (.mov (.t 6)),
 oq 14 (.eqn false true (.t 13))] [] false)
  (.cond (.t 14)
    (.seq (.region [
 oq 15 (.mov (.t 6)),
 oq 2 (.mov (.c (.slice none 0 0))),
 oq 3 (.mov (.t 15))] [] false)
    (.ret))
    (.skip)))
  (.seq (.region [
 oq 16 (.mov (.t 4)),
 oq 17 (.call true [] 341 [(.t 16)]),
 oq 2 (.mov (.t 17)),
 oq 3 (.mov (.c (.nilIface)))] [] false)
  (.ret))))
def tf316 : TFunc := { np := 1, nt := 18, res := [.tmp 2, .tmp 3], own := false, body := tc316 }
noncomputable def S316 (F340 : Dim → (Option ((List (List Int)) × Int × Err))) (F341 : (List (List Int)) → (Option (List Int))) (a0 : Dim) : Option ((List Int) × Err) :=
  bno (F340 a0) fun y1 =>
  br (!(Err.isNil y1.2.2))
  (some (([] : List Int), y1.2.2))
  (bno (F341 y1.1) fun y2 =>
  some (y2, Err.nil))
theorem s316 (F340 : Dim → (Option ((List (List Int)) × Int × Err))) (F341 : (List (List Int)) → (Option (List Int))) (a0 : Dim) : tf316.run [⟨340, [(.st .dim)], (.tp [(.sl (.sl .int)), .int, .err]), fun x => F340 x, false, []⟩,
  ⟨341, [(.sl (.sl .int))], (.sl .int), fun x => F341 x, false, []⟩] [(.st .dim)] (.tp [(.sl .int), .err]) a0 = S316 F340 F341 a0 := by kernel_rfl
noncomputable def P316 (a0 : Dim) : Option ((List Int) × Err) := S316 P340 P341 a0
noncomputable def k316 : CSpec := ⟨316, [(.st .dim)], (.tp [(.sl .int), .err]), fun x => P316 x, false, []⟩
theorem r316 {S : Seat} (h : Ok1 S 316 tf316) (h340 : Rt S k340) (h341 : Rt S k341) : Rt S k316 := fun x y hy =>
  Ok1.sound h (C := [k340, k341]) (CSound.cons h340 (CSound.cons h341 CSound.nil)) rfl rfl rfl ((s316 P340 P341 x).trans hy) rfl
end Ab
