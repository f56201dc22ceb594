/-
  Functions of the program as typed code, what they come to, and their contracts: written by program (mk.py).
-/
import Derived.Test.YthjpciiacibnhaaDoorB2
import Derived.KernelRfl
import Derived.Test.YthjpciiacibnhaaDoorMO
namespace Ab
open Go
set_option linter.unusedVariables false
set_option maxRecDepth 100000

/- tallyhall/tree.ready -/
def tc43 : TCode :=
  .seq (.region [
  ⟨some 2, .box (.t 0), none, []⟩,
  ⟨some 4, .mov (.c (.nilIface)), none, []⟩] [] false)
  (.seq (.seq (.region [
  ⟨some 10, .load (some 3) (.t 2), none, []⟩,
  ⟨some 11, .call false [] 15 [(.t 10)], none, []⟩,
  ⟨some 9, .mov (.t 11), none, []⟩,
  ⟨some 12, .ext (.t 9) 0, none, []⟩,
  ⟨some 13, .ext (.t 9) 1, none, []⟩,
  ⟨some 5, .mov (.t 12), none, []⟩,
  ⟨some 6, .mov (.t 13), none, []⟩] [] false)
  (.seq (.region [
  ⟨some 14, .mov (.t 6), none, []⟩,
  ⟨some 15, .eqn false true (.t 14), none, []⟩] [] false)
  (.cond (.t 15)
    (.seq (.region [
  ⟨some 16, .mov (.t 6), none, []⟩,
  ⟨some 4, .mov (.t 16), none, []⟩] [] false)
    (.ret))
    (.skip))))
  (.seq (.seq (.region [
  ⟨some 17, .mov (.t 1), none, []⟩,
  ⟨some 18, .len false (.t 17), none, []⟩,
  ⟨some 19, .mov (.c (.int .i64 0)), none, []⟩] [] false)
  (.loop ⟨[.slot 19 .int], [8, 20, 21, 22, 23, 24, 25, 26, 27, 28, 29, 30, 31, 33], [], []⟩ 0 (.seq (.region [
  ⟨some 20, .bin .int .lss (.t 19) (.t 18), none, []⟩] [] false)
    (.seq (.cond (.t 20)
      (.skip)
      (.exit 0))
    (.seq (.block 1 (.seq (.region [
  ⟨some 21, .ia 1 (.t 17) (.t 19), none, []⟩,
  ⟨some 22, .load none (.t 21), none, []⟩,
  ⟨some 8, .mov (.t 22), none, []⟩] [] false)
      (.seq (.regionJ ⟨[.slot 31 .bool], [23, 24, 25, 26, 27, 28, 29, 30], [], []⟩ [
  ⟨some 23, .mov (.t 8), none, []⟩,
  ⟨some 24, .bin .int .lss (.t 23) (.c (.int .i64 0)), none, []⟩,
  ⟨some 25, .mov (.t 24), none, []⟩,
  ⟨some 26, .mov (.t 8), (some (25, false)), []⟩,
  ⟨some 27, .fa 2 (.t 2), (some (25, false)), []⟩,
  ⟨some 28, .load none (.t 27), (some (25, false)), []⟩,
  ⟨some 29, .len false (.t 28), (some (25, false)), []⟩,
  ⟨some 30, .bin .int .geq (.t 26) (.t 29), (some (25, false)), []⟩,
  ⟨some 31, .pick (.t 25) (.c (.bool true)) (.t 30), none, []⟩] [] false)
      (.cond (.t 31)
        (.seq (.region [
  ⟨some 32, .ifc 1 (.c (.int .i64 1)), none, []⟩,
  ⟨some 4, .mov (.t 32), none, []⟩] [] false)
        (.ret))
        (.skip)))))
    (.region [
  ⟨some 33, .bin .int .add (.t 19) (.c (.int .i64 1)), none, []⟩,
  ⟨some 19, .mov (.t 33), none, []⟩] [] false))))))
  (.seq (.region [
  ⟨some 4, .mov (.c (.nilIface)), none, []⟩] [] false)
  (.ret))))
def tf43 : TFunc := { np := 2, nt := 34, res := [.tmp 4], own := false, body := tc43 }
noncomputable def S43_L1 (a0 : Dim) (a1 : (List Int)) (x2 : Int) : Option (LR Int Err) :=
  br (decide (x2 < ((List.length a1 : Nat) : Int)))
  (bno (lookI a1 x2) fun y3 =>
  jn (σ := Bool) (α := (LR Int Err)) (br (decide (y3 < (0 : Int)))
  (inlO (some true))
  (inlO (some (decide (((List.length (Dim.members a0) : Nat) : Int) ≤ y3))))) fun x4 =>
  br x4
  (finO (some (Err.no (1 : Int))))
  (nxO (some (wi (x2 + (1 : Int))))))
  (dnO (some x2))
noncomputable def S43 (F15 : Dim → (Option (Int × Err))) (a0 : Dim) (a1 : (List Int)) : Option Err :=
  bno (F15 a0) fun y1 =>
  br (!(Err.isNil y1.2))
  (some y1.2)
  (lp (S43_L1 a0 a1) (0 : Int) fun x5 =>
  some Err.nil)
theorem s43 (F15 : Dim → (Option (Int × Err))) (a0 : Dim) (a1 : (List Int)) : tf43.run [⟨15, [(.st .dim)], (.tp [.int, .err]), fun x => F15 x, false, []⟩] [(.st .dim), (.sl .int)] .err (a0, a1) = S43 F15 a0 a1 := by kernel_rfl
noncomputable def P43 (a0 : Dim) (a1 : (List Int)) : Option Err := S43 P15 a0 a1
noncomputable def k43 : CSpec := ⟨43, [(.st .dim), (.sl .int)], .err, fun x => P43 x.1 x.2, false, []⟩
theorem r43 {S : Seat} (h : Ok1 S 43 tf43) (h15 : Rt S k15) : Rt S k43 := fun x y hy =>
  Ok1.sound h (C := [k15]) (CSound.cons h15 CSound.nil) rfl rfl rfl ((s43 P15 x.1 x.2).trans hy) rfl

/- tallyhall/tree.PartsOf -/
def tc47 : TCode :=
  .seq (.region [
  ⟨some 2, .box (.t 0), none, []⟩,
  ⟨some 4, .mov (.c (.slice none 0 0)), none, []⟩] [] false)
  (.seq (.seq (.region [
  ⟨some 7, .fa 2 (.t 2), none, []⟩,
  ⟨some 8, .load none (.t 7), none, []⟩,
  ⟨some 9, .len false (.t 8), none, []⟩,
  ⟨some 10, .mov (.c (.int .i64 0)), none, []⟩] [] false)
  (.loop ⟨[.row 4 22 .int, .slot 10 .int], [5, 6, 11, 12, 13, 14, 15, 16, 17, 18, 19, 20, 21, 22, 23], [6, 21], []⟩ 0 (.seq (.region [
  ⟨some 11, .bin .int .lss (.t 10) (.t 9), none, []⟩] [] false)
    (.seq (.cond (.t 11)
      (.skip)
      (.exit 0))
    (.seq (.block 1 (.seq (.region [
  ⟨some 12, .mov (.t 10), none, []⟩,
  ⟨some 13, .ia 4 (.t 8) (.t 10), none, []⟩,
  ⟨some 14, .load (some 4) (.t 13), none, []⟩,
  ⟨some 6, .alloc [.string ⟨#[]⟩, .int .i64 0, .int .i64 0, .string ⟨#[]⟩], none, []⟩,
  ⟨some 5, .mov (.t 12), none, []⟩,
  ⟨none, .store 4 (.t 6) (.t 14), none, []⟩] [] false)
      (.seq (.region [
  ⟨some 15, .fa 1 (.t 6), none, []⟩,
  ⟨some 16, .load none (.t 15), none, []⟩,
  ⟨some 17, .mov (.t 1), none, []⟩,
  ⟨some 18, .bin .int .eql (.t 16) (.t 17), none, []⟩] [] false)
      (.condJ ⟨[.row 4 22 .int], [19, 20, 21, 22], [21], []⟩ (.t 18)
        (.region [
  ⟨some 19, .mov (.t 4), none, []⟩,
  ⟨some 20, .mov (.t 5), none, []⟩,
  ⟨some 21, .bslice false 1 [.int .i64 0] 1 [(0, (.t 20))], none, []⟩,
  ⟨some 22, .app 1 (.t 19) (.t 21), none, []⟩,
  ⟨some 4, .mov (.t 22), none, []⟩] [] false)
        (.skip)))))
    (.region [
  ⟨some 23, .bin .int .add (.t 10) (.c (.int .i64 1)), none, []⟩,
  ⟨some 10, .mov (.t 23), none, []⟩] [] false))))))
  (.seq (.region [
  ⟨some 24, .mov (.t 4), none, []⟩,
  ⟨some 4, .mov (.t 24), none, []⟩] [] false)
  (.ret)))
def tf47 : TFunc := { np := 2, nt := 25, res := [.tmp 4], own := false, body := tc47 }
noncomputable def S47_L1 (a0 : Dim) (a1 : Int) (x1 : ((List Int) × Int)) : Option (LR ((List Int) × Int) (List Int)) :=
  br (decide (x1.2 < ((List.length (Dim.members a0) : Nat) : Int)))
  (bno (lookI (Dim.members a0) x1.2) fun y2 =>
  jn (σ := (List Int)) (α := (LR ((List Int) × Int) (List Int))) (br (decide ((Member.parent y2) = a1))
  (ck (decide (List.length x1.1 + List.length ([x1.2] : List Int) ≤ roomA)) <|
  inlO (some (x1.1 ++ ([x1.2] : List Int))))
  (inlO (some x1.1))) fun x3 =>
  nxO (some (x3, wi (x1.2 + (1 : Int)))))
  (dnO (some (x1.1, x1.2)))
noncomputable def S47 (a0 : Dim) (a1 : Int) : Option (List Int) :=
  lp (S47_L1 a0 a1) (([] : List Int), (0 : Int)) fun x4 =>
  some x4.1
theorem s47 (a0 : Dim) (a1 : Int) : tf47.run [] [(.st .dim), .int] (.sl .int) (a0, a1) = S47 a0 a1 := by kernel_rfl
noncomputable def P47 (a0 : Dim) (a1 : Int) : Option (List Int) := S47 a0 a1
noncomputable def k47 : CSpec := ⟨47, [(.st .dim), .int], (.sl .int), fun x => P47 x.1 x.2, false, []⟩
theorem r47 {S : Seat} (h : Ok1 S 47 tf47) : Rt S k47 := fun x y hy =>
  Ok1.sound h (C := []) CSound.nil rfl rfl rfl ((s47 x.1 x.2).trans hy) rfl

/- tallyhall/tree.IsLeaf -/
def tc44 : TCode :=
  .seq (.region [
  ⟨some 2, .box (.t 0), none, []⟩,
  ⟨some 4, .mov (.c (.bool false)), none, []⟩] [] false)
  (.seq (.regionJ ⟨[.slot 4 .bool], [5, 6, 7, 8, 9, 10, 11, 12, 13, 14, 15, 16, 17, 18], [], []⟩ [
  ⟨some 5, .fa 2 (.t 2), none, []⟩,
  ⟨some 6, .load none (.t 5), none, []⟩,
  ⟨some 7, .mov (.t 1), none, []⟩,
  ⟨some 8, .ia 4 (.t 6) (.t 7), none, []⟩,
  ⟨some 9, .fa 3 (.t 8), none, []⟩,
  ⟨some 10, .load none (.t 9), none, []⟩,
  ⟨some 11, .bin .str .eql (.t 10) (.c (.string ⟨#[]⟩)), none, []⟩,
  ⟨some 12, .mov (.t 11), none, []⟩,
  ⟨some 13, .load (some 3) (.t 2), (some (12, true)), []⟩,
  ⟨some 14, .mov (.t 1), (some (12, true)), []⟩,
  ⟨some 15, .call true [] 47 [(.t 13), (.t 14)], (some (12, true)), []⟩,
  ⟨some 16, .len false (.t 15), (some (12, true)), []⟩,
  ⟨some 17, .bin .int .eql (.t 16) (.c (.int .i64 0)), (some (12, true)), []⟩,
  ⟨some 18, .pick (.t 12) (.t 17) (.c (.bool false)), none, []⟩,
  ⟨some 4, .mov (.t 18), none, []⟩] [] false)
  (.ret))
def tf44 : TFunc := { np := 2, nt := 19, res := [.tmp 4], own := false, body := tc44 }
noncomputable def S44 (F47 : Dim → Int → (Option (List Int))) (a0 : Dim) (a1 : Int) : Option Bool :=
  jn (σ := Bool) (α := Bool) (bno (lookI (Dim.members a0) a1) fun y1 =>
  br (decide ((Member.formula y1) = (⟨#[]⟩ : ByteArray)))
  (bno (F47 a0 a1) fun y2 =>
  inlO (some (decide (((List.length y2 : Nat) : Int) = (0 : Int)))))
  (inlO (some false))) fun x3 =>
  some x3
theorem s44 (F47 : Dim → Int → (Option (List Int))) (a0 : Dim) (a1 : Int) : tf44.run [⟨47, [(.st .dim), .int], (.sl .int), fun x => F47 x.1 x.2, false, []⟩] [(.st .dim), .int] .bool (a0, a1) = S44 F47 a0 a1 := by kernel_rfl
noncomputable def P44 (a0 : Dim) (a1 : Int) : Option Bool := S44 P47 a0 a1
noncomputable def k44 : CSpec := ⟨44, [(.st .dim), .int], .bool, fun x => P44 x.1 x.2, false, []⟩
theorem r44 {S : Seat} (h : Ok1 S 44 tf44) (h47 : Rt S k47) : Rt S k44 := fun x y hy =>
  Ok1.sound h (C := [k47]) (CSound.cons h47 CSound.nil) rfl rfl rfl ((s44 P47 x.1 x.2).trans hy) rfl

/- tallyhall/tree.up -/
def tc48 : TCode :=
  .seq (.region [
  ⟨some 2, .box (.t 0), none, []⟩,
  ⟨some 4, .mov (.c (.slice none 0 0)), none, []⟩] [] false)
  (.seq (.loop ⟨[.slot 1 .int, .row 4 10 .int], [5, 6, 7, 8, 9, 10, 11, 12, 13, 14, 15, 16], [9], []⟩ 0 (.seq (.seq (.region [
  ⟨some 5, .mov (.t 1), none, []⟩,
  ⟨some 6, .bin .int .geq (.t 5) (.c (.int .i64 0)), none, []⟩] [] false)
    (.cond (.t 6)
      (.skip)
      (.exit 0)))
    (.block 1 (.seq (.region [
  ⟨some 7, .mov (.t 4), none, []⟩,
  ⟨some 8, .mov (.t 1), none, []⟩,
  ⟨some 9, .bslice false 1 [.int .i64 0] 1 [(0, (.t 8))], none, []⟩,
  ⟨some 10, .app 1 (.t 7) (.t 9), none, []⟩,
  ⟨some 4, .mov (.t 10), none, []⟩] [] false)
      (.region [
  ⟨some 11, .fa 2 (.t 2), none, []⟩,
  ⟨some 12, .load none (.t 11), none, []⟩,
  ⟨some 13, .mov (.t 1), none, []⟩,
  ⟨some 14, .ia 4 (.t 12) (.t 13), none, []⟩,
  ⟨some 15, .fa 1 (.t 14), none, []⟩,
  ⟨some 16, .load none (.t 15), none, []⟩,
  ⟨some 1, .mov (.t 16), none, []⟩] [] false)))))
  (.seq (.region [
  ⟨some 17, .mov (.t 4), none, []⟩,
  ⟨some 4, .mov (.t 17), none, []⟩] [] false)
  (.ret)))
def tf48 : TFunc := { np := 2, nt := 18, res := [.tmp 4], own := false, body := tc48 }
noncomputable def S48_L1 (a0 : Dim) (x1 : (Int × (List Int))) : Option (LR (Int × (List Int)) (List Int)) :=
  br (decide ((0 : Int) ≤ x1.1))
  (ck (decide (List.length x1.2 + List.length ([x1.1] : List Int) ≤ roomA)) <|
  bno (lookI (Dim.members a0) x1.1) fun y2 =>
  nxO (some (Member.parent y2, x1.2 ++ ([x1.1] : List Int))))
  (dnO (some (x1.1, x1.2)))
noncomputable def S48 (a0 : Dim) (a1 : Int) : Option (List Int) :=
  lp (S48_L1 a0) (a1, ([] : List Int)) fun x3 =>
  some x3.2
theorem s48 (a0 : Dim) (a1 : Int) : tf48.run [] [(.st .dim), .int] (.sl .int) (a0, a1) = S48 a0 a1 := by kernel_rfl
noncomputable def P48 (a0 : Dim) (a1 : Int) : Option (List Int) := S48 a0 a1
noncomputable def k48 : CSpec := ⟨48, [(.st .dim), .int], (.sl .int), fun x => P48 x.1 x.2, false, []⟩
theorem r48 {S : Seat} (h : Ok1 S 48 tf48) : Rt S k48 := fun x y hy =>
  Ok1.sound h (C := []) CSound.nil rfl rfl rfl ((s48 x.1 x.2).trans hy) rfl

/- tallyhall/tree.WeightOf -/
def tc45 : TCode :=
  .seq (.region [
  ⟨some 3, .box (.t 0), none, []⟩,
  ⟨some 6, .mov (.c (.int .i64 0)), none, []⟩,
  ⟨some 7, .mov (.c (.bool false)), none, []⟩] [] false)
  (.seq (.region [
  ⟨some 8, .mov (.c (.int .i64 1)), none, []⟩] [] false)
  (.seq (.seq (.region [
  ⟨some 11, .load (some 3) (.t 3), none, []⟩,
  ⟨some 12, .mov (.t 2), none, []⟩,
  ⟨some 13, .call true [] 48 [(.t 11), (.t 12)], none, []⟩,
  ⟨some 14, .len false (.t 13), none, []⟩,
  ⟨some 15, .mov (.c (.int .i64 0)), none, []⟩] [] false)
  (.loop ⟨[.slot 8 .int, .slot 15 .int], [10, 16, 17, 18, 19, 20, 21, 23, 24, 25, 26, 27, 28, 29, 30, 31], [], []⟩ 0 (.seq (.region [
  ⟨some 16, .bin .int .lss (.t 15) (.t 14), none, []⟩] [] false)
    (.seq (.cond (.t 16)
      (.skip)
      (.exit 0))
    (.seq (.block 1 (.seq (.region [
  ⟨some 17, .ia 1 (.t 13) (.t 15), none, []⟩,
  ⟨some 18, .load none (.t 17), none, []⟩,
  ⟨some 10, .mov (.t 18), none, []⟩] [] false)
      (.seq (.seq (.region [
  ⟨some 19, .mov (.t 10), none, []⟩,
  ⟨some 20, .mov (.t 1), none, []⟩,
  ⟨some 21, .bin .int .eql (.t 19) (.t 20), none, []⟩] [] false)
      (.cond (.t 21)
        (.seq (.region [
  ⟨some 22, .mov (.t 8), none, []⟩,
  ⟨some 6, .mov (.t 22), none, []⟩,
  ⟨some 7, .mov (.c (.bool true)), none, []⟩] [] false)
        (.ret))
        (.skip)))
      (.region [
  ⟨some 23, .mov (.t 8), none, []⟩,
  ⟨some 24, .fa 2 (.t 3), none, []⟩,
  ⟨some 25, .load none (.t 24), none, []⟩,
  ⟨some 26, .mov (.t 10), none, []⟩,
  ⟨some 27, .ia 4 (.t 25) (.t 26), none, []⟩,
  ⟨some 28, .fa 2 (.t 27), none, []⟩,
  ⟨some 29, .load none (.t 28), none, []⟩,
  ⟨some 30, .bin .int .mul (.t 23) (.t 29), none, []⟩,
  ⟨some 8, .mov (.t 30), none, []⟩] [] false))))
    (.region [
  ⟨some 31, .bin .int .add (.t 15) (.c (.int .i64 1)), none, []⟩,
  ⟨some 15, .mov (.t 31), none, []⟩] [] false))))))
  (.seq (.region [
  ⟨some 6, .mov (.c (.int .i64 0)), none, []⟩,
  ⟨some 7, .mov (.c (.bool false)), none, []⟩] [] false)
  (.ret))))
def tf45 : TFunc := { np := 3, nt := 32, res := [.tmp 6, .tmp 7], own := false, body := tc45 }
noncomputable def S45_L1 (a0 : Dim) (a1 : Int) (y1 : (List Int)) (x2 : (Int × Int)) : Option (LR (Int × Int) (Int × Bool)) :=
  br (decide (x2.2 < ((List.length y1 : Nat) : Int)))
  (bno (lookI y1 x2.2) fun y3 =>
  br (decide (y3 = a1))
  (finO (some (x2.1, true)))
  (bno (lookI (Dim.members a0) y3) fun y4 =>
  nxO (some (wi (x2.1 * (Member.sign y4)), wi (x2.2 + (1 : Int))))))
  (dnO (some (x2.1, x2.2)))
noncomputable def S45 (F48 : Dim → Int → (Option (List Int))) (a0 : Dim) (a1 : Int) (a2 : Int) : Option (Int × Bool) :=
  bno (F48 a0 a2) fun y1 =>
  lp (S45_L1 a0 a1 y1) ((1 : Int), (0 : Int)) fun x5 =>
  some ((0 : Int), false)
theorem s45 (F48 : Dim → Int → (Option (List Int))) (a0 : Dim) (a1 : Int) (a2 : Int) : tf45.run [⟨48, [(.st .dim), .int], (.sl .int), fun x => F48 x.1 x.2, false, []⟩] [(.st .dim), .int, .int] (.tp [.int, .bool]) (a0, a1, a2) = S45 F48 a0 a1 a2 := by kernel_rfl
noncomputable def P45 (a0 : Dim) (a1 : Int) (a2 : Int) : Option (Int × Bool) := S45 P48 a0 a1 a2
noncomputable def k45 : CSpec := ⟨45, [(.st .dim), .int, .int], (.tp [.int, .bool]), fun x => P45 x.1 x.2.1 x.2.2, false, []⟩
theorem r45 {S : Seat} (h : Ok1 S 45 tf45) (h48 : Rt S k48) : Rt S k45 := fun x y hy =>
  Ok1.sound h (C := [k48]) (CSound.cons h48 CSound.nil) rfl rfl rfl ((s45 P48 x.1 x.2.1 x.2.2).trans hy) rfl

/- tallyhall/tree.Weight -/
def tc16 : TCode :=
  .seq (.region [
  ⟨some 3, .box (.t 0), none, []⟩,
  ⟨some 6, .mov (.c (.int .i64 0)), none, []⟩,
  ⟨some 7, .mov (.c (.nilIface)), none, []⟩] [] false)
  (.seq (.seq (.region [
  ⟨some 11, .load (some 3) (.t 3), none, []⟩,
  ⟨some 12, .mov (.t 1), none, []⟩,
  ⟨some 13, .mov (.t 2), none, []⟩,
  ⟨some 14, .bslice false 1 [.int .i64 0] 2 [(0, (.t 12)), (1, (.t 13))], none, []⟩,
  ⟨some 15, .call false [] 43 [(.t 11), (.t 14)], none, []⟩,
  ⟨some 8, .mov (.t 15), none, []⟩] [] false)
  (.seq (.region [
  ⟨some 16, .mov (.t 8), none, []⟩,
  ⟨some 17, .eqn false true (.t 16), none, []⟩] [] false)
  (.cond (.t 17)
    (.seq (.region [
  ⟨some 18, .mov (.t 8), none, []⟩,
  ⟨some 6, .mov (.c (.int .i64 0)), none, []⟩,
  ⟨some 7, .mov (.t 18), none, []⟩] [] false)
    (.ret))
    (.skip))))
  (.seq (.seq (.region [
  ⟨some 19, .load (some 3) (.t 3), none, []⟩,
  ⟨some 20, .mov (.t 2), none, []⟩,
  ⟨some 21, .call false [] 44 [(.t 19), (.t 20)], none, []⟩,
  ⟨some 22, .un .not (.t 21), none, []⟩] [] false)
  (.cond (.t 22)
    (.seq (.region [
  ⟨some 23, .ifc 1 (.c (.int .i64 3)), none, []⟩,
  ⟨some 6, .mov (.c (.int .i64 0)), none, []⟩,
  ⟨some 7, .mov (.t 23), none, []⟩] [] false)
    (.ret))
    (.skip)))
  (.seq (.region [
  ⟨some 25, .load (some 3) (.t 3), none, []⟩,
  ⟨some 26, .mov (.t 1), none, []⟩,
  ⟨some 27, .mov (.t 2), none, []⟩,
  ⟨some 28, .call false [] 45 [(.t 25), (.t 26), (.t 27)], none, []⟩,
  ⟨some 24, .mov (.t 28), none, []⟩,
  ⟨some 29, .ext (.t 24) 0, none, []⟩,
  ⟨some 30, .ext (.t 24) 1, none, []⟩,
  ⟨some 9, .mov (.t 29), none, []⟩,
  ⟨some 10, .mov (.t 30), none, []⟩] [] false)
  (.seq (.region [
  ⟨some 31, .mov (.t 9), none, []⟩,
  ⟨some 6, .mov (.t 31), none, []⟩,
  ⟨some 7, .mov (.c (.nilIface)), none, []⟩] [] false)
  (.ret)))))
def tf16 : TFunc := { np := 3, nt := 32, res := [.tmp 6, .tmp 7], own := false, body := tc16 }
noncomputable def S16 (F43 : Dim → (List Int) → (Option Err)) (F44 : Dim → Int → (Option Bool)) (F45 : Dim → Int → Int → (Option (Int × Bool))) (a0 : Dim) (a1 : Int) (a2 : Int) : Option (Int × Err) :=
  bno (F43 a0 ([a1, a2] : List Int)) fun y1 =>
  br (!(Err.isNil y1))
  (some ((0 : Int), y1))
  (bno (F44 a0 a2) fun y2 =>
  br (!y2)
  (some ((0 : Int), Err.no (3 : Int)))
  (bno (F45 a0 a1 a2) fun y3 =>
  some (y3.1, Err.nil)))
theorem s16 (F43 : Dim → (List Int) → (Option Err)) (F44 : Dim → Int → (Option Bool)) (F45 : Dim → Int → Int → (Option (Int × Bool))) (a0 : Dim) (a1 : Int) (a2 : Int) : tf16.run [⟨43, [(.st .dim), (.sl .int)], .err, fun x => F43 x.1 x.2, false, []⟩,
  ⟨44, [(.st .dim), .int], .bool, fun x => F44 x.1 x.2, false, []⟩,
  ⟨45, [(.st .dim), .int, .int], (.tp [.int, .bool]), fun x => F45 x.1 x.2.1 x.2.2, false, []⟩] [(.st .dim), .int, .int] (.tp [.int, .err]) (a0, a1, a2) = S16 F43 F44 F45 a0 a1 a2 := by kernel_rfl
noncomputable def P16 (a0 : Dim) (a1 : Int) (a2 : Int) : Option (Int × Err) := S16 P43 P44 P45 a0 a1 a2
noncomputable def k16 : CSpec := ⟨16, [(.st .dim), .int, .int], (.tp [.int, .err]), fun x => P16 x.1 x.2.1 x.2.2, false, []⟩
theorem r16 {S : Seat} (h : Ok1 S 16 tf16) (h43 : Rt S k43) (h44 : Rt S k44) (h45 : Rt S k45) : Rt S k16 := fun x y hy =>
  Ok1.sound h (C := [k43, k44, k45]) (CSound.cons h43 (CSound.cons h44 (CSound.cons h45 CSound.nil))) rfl rfl rfl ((s16 P43 P44 P45 x.1 x.2.1 x.2.2).trans hy) rfl

/- tallyhall/tree.LeafsOf -/
def tc46 : TCode :=
  .seq (.region [
  ⟨some 2, .box (.t 0), none, []⟩,
  ⟨some 4, .mov (.c (.slice none 0 0)), none, []⟩] [] false)
  (.seq (.seq (.region [
  ⟨some 8, .fa 2 (.t 2), none, []⟩,
  ⟨some 9, .load none (.t 8), none, []⟩,
  ⟨some 10, .len false (.t 9), none, []⟩,
  ⟨some 11, .mov (.c (.int .i64 0)), none, []⟩] [] false)
  (.loop ⟨[.row 4 30 .int, .slot 11 .int], [5, 6, 7, 12, 13, 14, 15, 16, 17, 18, 19, 20, 21, 22, 23, 24, 25, 26, 27, 28, 29, 30, 31], [29], []⟩ 0 (.seq (.region [
  ⟨some 12, .bin .int .lss (.t 11) (.t 10), none, []⟩] [] false)
    (.seq (.cond (.t 12)
      (.skip)
      (.exit 0))
    (.seq (.block 1 (.seq (.region [
  ⟨some 13, .mov (.t 11), none, []⟩,
  ⟨some 5, .mov (.t 13), none, []⟩] [] false)
      (.seq (.region [
  ⟨some 15, .load (some 3) (.t 2), none, []⟩,
  ⟨some 16, .mov (.t 1), none, []⟩,
  ⟨some 17, .mov (.t 5), none, []⟩,
  ⟨some 18, .call false [] 45 [(.t 15), (.t 16), (.t 17)], none, []⟩,
  ⟨some 14, .mov (.t 18), none, []⟩,
  ⟨some 19, .ext (.t 14) 0, none, []⟩,
  ⟨some 20, .ext (.t 14) 1, none, []⟩,
  ⟨some 6, .mov (.t 19), none, []⟩,
  ⟨some 7, .mov (.t 20), none, []⟩] [] false)
      (.seq (.regionJ ⟨[.slot 26 .bool], [21, 22, 23, 24, 25], [], []⟩ [
  ⟨some 21, .mov (.t 7), none, []⟩,
  ⟨some 22, .mov (.t 21), none, []⟩,
  ⟨some 23, .load (some 3) (.t 2), (some (22, true)), []⟩,
  ⟨some 24, .mov (.t 5), (some (22, true)), []⟩,
  ⟨some 25, .call false [] 44 [(.t 23), (.t 24)], (some (22, true)), []⟩,
  ⟨some 26, .pick (.t 22) (.t 25) (.c (.bool false)), none, []⟩] [] false)
      (.condJ ⟨[.row 4 30 .int], [27, 28, 29, 30], [29], []⟩ (.t 26)
        (.region [
  ⟨some 27, .mov (.t 4), none, []⟩,
  ⟨some 28, .mov (.t 5), none, []⟩,
  ⟨some 29, .bslice false 1 [.int .i64 0] 1 [(0, (.t 28))], none, []⟩,
  ⟨some 30, .app 1 (.t 27) (.t 29), none, []⟩,
  ⟨some 4, .mov (.t 30), none, []⟩] [] false)
        (.skip))))))
    (.region [
  ⟨some 31, .bin .int .add (.t 11) (.c (.int .i64 1)), none, []⟩,
  ⟨some 11, .mov (.t 31), none, []⟩] [] false))))))
  (.seq (.region [
  ⟨some 32, .mov (.t 4), none, []⟩,
  ⟨some 4, .mov (.t 32), none, []⟩] [] false)
  (.ret)))
def tf46 : TFunc := { np := 2, nt := 33, res := [.tmp 4], own := false, body := tc46 }
noncomputable def S46_L1 (F44 : Dim → Int → (Option Bool)) (F45 : Dim → Int → Int → (Option (Int × Bool))) (a0 : Dim) (a1 : Int) (x1 : ((List Int) × Int)) : Option (LR ((List Int) × Int) (List Int)) :=
  br (decide (x1.2 < ((List.length (Dim.members a0) : Nat) : Int)))
  (bno (F45 a0 a1 x1.2) fun y2 =>
  jn (σ := Bool) (α := (LR ((List Int) × Int) (List Int))) (br y2.2
  (bno (F44 a0 x1.2) fun y3 =>
  inlO (some y3))
  (inlO (some false))) fun x4 =>
  jn (σ := (List Int)) (α := (LR ((List Int) × Int) (List Int))) (br x4
  (ck (decide (List.length x1.1 + List.length ([x1.2] : List Int) ≤ roomA)) <|
  inlO (some (x1.1 ++ ([x1.2] : List Int))))
  (inlO (some x1.1))) fun x5 =>
  nxO (some (x5, wi (x1.2 + (1 : Int)))))
  (dnO (some (x1.1, x1.2)))
noncomputable def S46 (F44 : Dim → Int → (Option Bool)) (F45 : Dim → Int → Int → (Option (Int × Bool))) (a0 : Dim) (a1 : Int) : Option (List Int) :=
  lp (S46_L1 F44 F45 a0 a1) (([] : List Int), (0 : Int)) fun x6 =>
  some x6.1
theorem s46 (F44 : Dim → Int → (Option Bool)) (F45 : Dim → Int → Int → (Option (Int × Bool))) (a0 : Dim) (a1 : Int) : tf46.run [⟨44, [(.st .dim), .int], .bool, fun x => F44 x.1 x.2, false, []⟩,
  ⟨45, [(.st .dim), .int, .int], (.tp [.int, .bool]), fun x => F45 x.1 x.2.1 x.2.2, false, []⟩] [(.st .dim), .int] (.sl .int) (a0, a1) = S46 F44 F45 a0 a1 := by kernel_rfl
noncomputable def P46 (a0 : Dim) (a1 : Int) : Option (List Int) := S46 P44 P45 a0 a1
noncomputable def k46 : CSpec := ⟨46, [(.st .dim), .int], (.sl .int), fun x => P46 x.1 x.2, false, []⟩
theorem r46 {S : Seat} (h : Ok1 S 46 tf46) (h44 : Rt S k44) (h45 : Rt S k45) : Rt S k46 := fun x y hy =>
  Ok1.sound h (C := [k44, k45]) (CSound.cons h44 (CSound.cons h45 CSound.nil)) rfl rfl rfl ((s46 P44 P45 x.1 x.2).trans hy) rfl

/- tallyhall/tree.Leafs -/
def tc17 : TCode :=
  .seq (.region [
  ⟨some 2, .box (.t 0), none, []⟩,
  ⟨some 4, .mov (.c (.slice none 0 0)), none, []⟩,
  ⟨some 5, .mov (.c (.nilIface)), none, []⟩] [] false)
  (.seq (.seq (.region [
  ⟨some 7, .load (some 3) (.t 2), none, []⟩,
  ⟨some 8, .mov (.t 1), none, []⟩,
  ⟨some 9, .bslice false 1 [.int .i64 0] 1 [(0, (.t 8))], none, []⟩,
  ⟨some 10, .call false [] 43 [(.t 7), (.t 9)], none, []⟩,
  ⟨some 6, .mov (.t 10), none, []⟩] [] false)
  (.seq (.region [
  ⟨some 11, .mov (.t 6), none, []⟩,
  ⟨some 12, .eqn false true (.t 11), none, []⟩] [] false)
  (.cond (.t 12)
    (.seq (.region [
  ⟨some 13, .mov (.t 6), none, []⟩,
  ⟨some 4, .mov (.c (.slice none 0 0)), none, []⟩,
  ⟨some 5, .mov (.t 13), none, []⟩] [] false)
    (.ret))
    (.skip))))
  (.seq (.region [
  ⟨some 14, .load (some 3) (.t 2), none, []⟩,
  ⟨some 15, .mov (.t 1), none, []⟩,
  ⟨some 16, .call true [] 46 [(.t 14), (.t 15)], none, []⟩,
  ⟨some 4, .mov (.t 16), none, []⟩,
  ⟨some 5, .mov (.c (.nilIface)), none, []⟩] [] false)
  (.ret)))
def tf17 : TFunc := { np := 2, nt := 17, res := [.tmp 4, .tmp 5], own := false, body := tc17 }
noncomputable def S17 (F43 : Dim → (List Int) → (Option Err)) (F46 : Dim → Int → (Option (List Int))) (a0 : Dim) (a1 : Int) : Option ((List Int) × Err) :=
  bno (F43 a0 ([a1] : List Int)) fun y1 =>
  br (!(Err.isNil y1))
  (some (([] : List Int), y1))
  (bno (F46 a0 a1) fun y2 =>
  some (y2, Err.nil))
theorem s17 (F43 : Dim → (List Int) → (Option Err)) (F46 : Dim → Int → (Option (List Int))) (a0 : Dim) (a1 : Int) : tf17.run [⟨43, [(.st .dim), (.sl .int)], .err, fun x => F43 x.1 x.2, false, []⟩,
  ⟨46, [(.st .dim), .int], (.sl .int), fun x => F46 x.1 x.2, false, []⟩] [(.st .dim), .int] (.tp [(.sl .int), .err]) (a0, a1) = S17 F43 F46 a0 a1 := by kernel_rfl
noncomputable def P17 (a0 : Dim) (a1 : Int) : Option ((List Int) × Err) := S17 P43 P46 a0 a1
noncomputable def k17 : CSpec := ⟨17, [(.st .dim), .int], (.tp [(.sl .int), .err]), fun x => P17 x.1 x.2, false, []⟩
theorem r17 {S : Seat} (h : Ok1 S 17 tf17) (h43 : Rt S k43) (h46 : Rt S k46) : Rt S k17 := fun x y hy =>
  Ok1.sound h (C := [k43, k46]) (CSound.cons h43 (CSound.cons h46 CSound.nil)) rfl rfl rfl ((s17 P43 P46 x.1 x.2).trans hy) rfl

/- tallyhall/tree.Parts -/
def tc18 : TCode :=
  .seq (.region [
  ⟨some 2, .box (.t 0), none, []⟩,
  ⟨some 4, .mov (.c (.slice none 0 0)), none, []⟩,
  ⟨some 5, .mov (.c (.nilIface)), none, []⟩] [] false)
  (.seq (.seq (.region [
  ⟨some 7, .load (some 3) (.t 2), none, []⟩,
  ⟨some 8, .mov (.t 1), none, []⟩,
  ⟨some 9, .bslice false 1 [.int .i64 0] 1 [(0, (.t 8))], none, []⟩,
  ⟨some 10, .call false [] 43 [(.t 7), (.t 9)], none, []⟩,
  ⟨some 6, .mov (.t 10), none, []⟩] [] false)
  (.seq (.region [
  ⟨some 11, .mov (.t 6), none, []⟩,
  ⟨some 12, .eqn false true (.t 11), none, []⟩] [] false)
  (.cond (.t 12)
    (.seq (.region [
  ⟨some 13, .mov (.t 6), none, []⟩,
  ⟨some 4, .mov (.c (.slice none 0 0)), none, []⟩,
  ⟨some 5, .mov (.t 13), none, []⟩] [] false)
    (.ret))
    (.skip))))
  (.seq (.region [
  ⟨some 14, .load (some 3) (.t 2), none, []⟩,
  ⟨some 15, .mov (.t 1), none, []⟩,
  ⟨some 16, .call true [] 47 [(.t 14), (.t 15)], none, []⟩,
  ⟨some 4, .mov (.t 16), none, []⟩,
  ⟨some 5, .mov (.c (.nilIface)), none, []⟩] [] false)
  (.ret)))
def tf18 : TFunc := { np := 2, nt := 17, res := [.tmp 4, .tmp 5], own := false, body := tc18 }
noncomputable def S18 (F43 : Dim → (List Int) → (Option Err)) (F47 : Dim → Int → (Option (List Int))) (a0 : Dim) (a1 : Int) : Option ((List Int) × Err) :=
  bno (F43 a0 ([a1] : List Int)) fun y1 =>
  br (!(Err.isNil y1))
  (some (([] : List Int), y1))
  (bno (F47 a0 a1) fun y2 =>
  some (y2, Err.nil))
theorem s18 (F43 : Dim → (List Int) → (Option Err)) (F47 : Dim → Int → (Option (List Int))) (a0 : Dim) (a1 : Int) : tf18.run [⟨43, [(.st .dim), (.sl .int)], .err, fun x => F43 x.1 x.2, false, []⟩,
  ⟨47, [(.st .dim), .int], (.sl .int), fun x => F47 x.1 x.2, false, []⟩] [(.st .dim), .int] (.tp [(.sl .int), .err]) (a0, a1) = S18 F43 F47 a0 a1 := by kernel_rfl
noncomputable def P18 (a0 : Dim) (a1 : Int) : Option ((List Int) × Err) := S18 P43 P47 a0 a1
noncomputable def k18 : CSpec := ⟨18, [(.st .dim), .int], (.tp [(.sl .int), .err]), fun x => P18 x.1 x.2, false, []⟩
theorem r18 {S : Seat} (h : Ok1 S 18 tf18) (h43 : Rt S k43) (h47 : Rt S k47) : Rt S k18 := fun x y hy =>
  Ok1.sound h (C := [k43, k47]) (CSound.cons h43 (CSound.cons h47 CSound.nil)) rfl rfl rfl ((s18 P43 P47 x.1 x.2).trans hy) rfl

/- tallyhall/tree.Path -/
def tc19 : TCode :=
  .seq (.region [
  ⟨some 2, .box (.t 0), none, []⟩,
  ⟨some 4, .mov (.c (.slice none 0 0)), none, []⟩,
  ⟨some 5, .mov (.c (.nilIface)), none, []⟩] [] false)
  (.seq (.seq (.region [
  ⟨some 7, .load (some 3) (.t 2), none, []⟩,
  ⟨some 8, .mov (.t 1), none, []⟩,
  ⟨some 9, .bslice false 1 [.int .i64 0] 1 [(0, (.t 8))], none, []⟩,
  ⟨some 10, .call false [] 43 [(.t 7), (.t 9)], none, []⟩,
  ⟨some 6, .mov (.t 10), none, []⟩] [] false)
  (.seq (.region [
  ⟨some 11, .mov (.t 6), none, []⟩,
  ⟨some 12, .eqn false true (.t 11), none, []⟩] [] false)
  (.cond (.t 12)
    (.seq (.region [
  ⟨some 13, .mov (.t 6), none, []⟩,
  ⟨some 4, .mov (.c (.slice none 0 0)), none, []⟩,
  ⟨some 5, .mov (.t 13), none, []⟩] [] false)
    (.ret))
    (.skip))))
  (.seq (.region [
  ⟨some 14, .load (some 3) (.t 2), none, []⟩,
  ⟨some 15, .mov (.t 1), none, []⟩,
  ⟨some 16, .call true [] 48 [(.t 14), (.t 15)], none, []⟩,
  ⟨some 4, .mov (.t 16), none, []⟩,
  ⟨some 5, .mov (.c (.nilIface)), none, []⟩] [] false)
  (.ret)))
def tf19 : TFunc := { np := 2, nt := 17, res := [.tmp 4, .tmp 5], own := false, body := tc19 }
noncomputable def S19 (F43 : Dim → (List Int) → (Option Err)) (F48 : Dim → Int → (Option (List Int))) (a0 : Dim) (a1 : Int) : Option ((List Int) × Err) :=
  bno (F43 a0 ([a1] : List Int)) fun y1 =>
  br (!(Err.isNil y1))
  (some (([] : List Int), y1))
  (bno (F48 a0 a1) fun y2 =>
  some (y2, Err.nil))
theorem s19 (F43 : Dim → (List Int) → (Option Err)) (F48 : Dim → Int → (Option (List Int))) (a0 : Dim) (a1 : Int) : tf19.run [⟨43, [(.st .dim), (.sl .int)], .err, fun x => F43 x.1 x.2, false, []⟩,
  ⟨48, [(.st .dim), .int], (.sl .int), fun x => F48 x.1 x.2, false, []⟩] [(.st .dim), .int] (.tp [(.sl .int), .err]) (a0, a1) = S19 F43 F48 a0 a1 := by kernel_rfl
noncomputable def P19 (a0 : Dim) (a1 : Int) : Option ((List Int) × Err) := S19 P43 P48 a0 a1
noncomputable def k19 : CSpec := ⟨19, [(.st .dim), .int], (.tp [(.sl .int), .err]), fun x => P19 x.1 x.2, false, []⟩
theorem r19 {S : Seat} (h : Ok1 S 19 tf19) (h43 : Rt S k43) (h48 : Rt S k48) : Rt S k19 := fun x y hy =>
  Ok1.sound h (C := [k43, k48]) (CSound.cons h43 (CSound.cons h48 CSound.nil)) rfl rfl rfl ((s19 P43 P48 x.1 x.2).trans hy) rfl

/- tallyhall/tree.Leaf -/
def tc20 : TCode :=
  .seq (.region [
  ⟨some 2, .box (.t 0), none, []⟩,
  ⟨some 4, .mov (.c (.bool false)), none, []⟩,
  ⟨some 5, .mov (.c (.nilIface)), none, []⟩] [] false)
  (.seq (.seq (.region [
  ⟨some 7, .load (some 3) (.t 2), none, []⟩,
  ⟨some 8, .mov (.t 1), none, []⟩,
  ⟨some 9, .bslice false 1 [.int .i64 0] 1 [(0, (.t 8))], none, []⟩,
  ⟨some 10, .call false [] 43 [(.t 7), (.t 9)], none, []⟩,
  ⟨some 6, .mov (.t 10), none, []⟩] [] false)
  (.seq (.region [
  ⟨some 11, .mov (.t 6), none, []⟩,
  ⟨some 12, .eqn false true (.t 11), none, []⟩] [] false)
  (.cond (.t 12)
    (.seq (.region [
  ⟨some 13, .mov (.t 6), none, []⟩,
  ⟨some 4, .mov (.c (.bool false)), none, []⟩,
  ⟨some 5, .mov (.t 13), none, []⟩] [] false)
    (.ret))
    (.skip))))
  (.seq (.region [
  ⟨some 14, .load (some 3) (.t 2), none, []⟩,
  ⟨some 15, .mov (.t 1), none, []⟩,
  ⟨some 16, .call false [] 44 [(.t 14), (.t 15)], none, []⟩,
  ⟨some 4, .mov (.t 16), none, []⟩,
  ⟨some 5, .mov (.c (.nilIface)), none, []⟩] [] false)
  (.ret)))
def tf20 : TFunc := { np := 2, nt := 17, res := [.tmp 4, .tmp 5], own := false, body := tc20 }
noncomputable def S20 (F43 : Dim → (List Int) → (Option Err)) (F44 : Dim → Int → (Option Bool)) (a0 : Dim) (a1 : Int) : Option (Bool × Err) :=
  bno (F43 a0 ([a1] : List Int)) fun y1 =>
  br (!(Err.isNil y1))
  (some (false, y1))
  (bno (F44 a0 a1) fun y2 =>
  some (y2, Err.nil))
theorem s20 (F43 : Dim → (List Int) → (Option Err)) (F44 : Dim → Int → (Option Bool)) (a0 : Dim) (a1 : Int) : tf20.run [⟨43, [(.st .dim), (.sl .int)], .err, fun x => F43 x.1 x.2, false, []⟩,
  ⟨44, [(.st .dim), .int], .bool, fun x => F44 x.1 x.2, false, []⟩] [(.st .dim), .int] (.tp [.bool, .err]) (a0, a1) = S20 F43 F44 a0 a1 := by kernel_rfl
noncomputable def P20 (a0 : Dim) (a1 : Int) : Option (Bool × Err) := S20 P43 P44 a0 a1
noncomputable def k20 : CSpec := ⟨20, [(.st .dim), .int], (.tp [.bool, .err]), fun x => P20 x.1 x.2, false, []⟩
theorem r20 {S : Seat} (h : Ok1 S 20 tf20) (h43 : Rt S k43) (h44 : Rt S k44) : Rt S k20 := fun x y hy =>
  Ok1.sound h (C := [k43, k44]) (CSound.cons h43 (CSound.cons h44 CSound.nil)) rfl rfl rfl ((s20 P43 P44 x.1 x.2).trans hy) rfl

/- tallyhall/tree.Depth -/
def tc99 : TCode :=
  .seq (.region [
  ⟨some 1, .box (.t 0), none, []⟩,
  ⟨some 2, .mov (.c (.int .i64 0)), none, []⟩,
  ⟨some 3, .mov (.c (.nilIface)), none, []⟩] [] false)
  (.seq (.seq (.region [
  ⟨some 7, .load (some 3) (.t 1), none, []⟩,
  ⟨some 8, .call false [] 43 [(.t 7), (.c (.slice none 0 0))], none, []⟩,
  ⟨some 4, .mov (.t 8), none, []⟩] [] false)
  (.seq (.region [
  ⟨some 9, .mov (.t 4), none, []⟩,
  ⟨some 10, .eqn false true (.t 9), none, []⟩] [] false)
  (.cond (.t 10)
    (.seq (.region [
  ⟨some 11, .mov (.t 4), none, []⟩,
  ⟨some 2, .mov (.c (.int .i64 0)), none, []⟩,
  ⟨some 3, .mov (.t 11), none, []⟩] [] false)
    (.ret))
    (.skip))))
  (.seq (.region [
  ⟨some 5, .mov (.c (.int .i64 0)), none, []⟩] [] false)
  (.seq (.seq (.region [
  ⟨some 12, .fa 2 (.t 1), none, []⟩,
  ⟨some 13, .load none (.t 12), none, []⟩,
  ⟨some 14, .len false (.t 13), none, []⟩,
  ⟨some 15, .mov (.c (.int .i64 0)), none, []⟩] [] false)
  (.loop ⟨[.slot 5 .int, .slot 15 .int], [6, 16, 17, 18, 19, 20, 21, 22, 23, 24], [], []⟩ 0 (.seq (.region [
  ⟨some 16, .bin .int .lss (.t 15) (.t 14), none, []⟩] [] false)
    (.seq (.cond (.t 16)
      (.skip)
      (.exit 0))
    (.seq (.block 1 (.seq (.region [
  ⟨some 17, .mov (.t 15), none, []⟩,
  ⟨some 6, .mov (.t 17), none, []⟩] [] false)
      (.region [
  ⟨some 18, .mov (.t 5), none, []⟩,
  ⟨some 19, .load (some 3) (.t 1), none, []⟩,
  ⟨some 20, .mov (.t 6), none, []⟩,
  ⟨some 21, .call true [] 48 [(.t 19), (.t 20)], none, []⟩,
  ⟨some 22, .len false (.t 21), none, []⟩,
  ⟨some 23, .max2 (.t 18) (.t 22), none, []⟩,
  ⟨some 5, .mov (.t 23), none, []⟩] [] false)))
    (.region [
  ⟨some 24, .bin .int .add (.t 15) (.c (.int .i64 1)), none, []⟩,
  ⟨some 15, .mov (.t 24), none, []⟩] [] false))))))
  (.seq (.region [
  ⟨some 25, .mov (.t 5), none, []⟩,
  ⟨some 2, .mov (.t 25), none, []⟩,
  ⟨some 3, .mov (.c (.nilIface)), none, []⟩] [] false)
  (.ret)))))
def tf99 : TFunc := { np := 1, nt := 26, res := [.tmp 2, .tmp 3], own := false, body := tc99 }
noncomputable def S99_L1 (F48 : Dim → Int → (Option (List Int))) (a0 : Dim) (x2 : (Int × Int)) : Option (LR (Int × Int) (Int × Err)) :=
  br (decide (x2.2 < ((List.length (Dim.members a0) : Nat) : Int)))
  (bno (F48 a0 x2.2) fun y3 =>
  nxO (some (maxT x2.1 ((List.length y3 : Nat) : Int), wi (x2.2 + (1 : Int)))))
  (dnO (some (x2.1, x2.2)))
noncomputable def S99 (F43 : Dim → (List Int) → (Option Err)) (F48 : Dim → Int → (Option (List Int))) (a0 : Dim) : Option (Int × Err) :=
  bno (F43 a0 ([] : List Int)) fun y1 =>
  br (!(Err.isNil y1))
  (some ((0 : Int), y1))
  (lp (S99_L1 F48 a0) ((0 : Int), (0 : Int)) fun x4 =>
  some (x4.1, Err.nil))
theorem s99 (F43 : Dim → (List Int) → (Option Err)) (F48 : Dim → Int → (Option (List Int))) (a0 : Dim) : tf99.run [⟨43, [(.st .dim), (.sl .int)], .err, fun x => F43 x.1 x.2, false, []⟩,
  ⟨48, [(.st .dim), .int], (.sl .int), fun x => F48 x.1 x.2, false, []⟩] [(.st .dim)] (.tp [.int, .err]) a0 = S99 F43 F48 a0 := by kernel_rfl
noncomputable def P99 (a0 : Dim) : Option (Int × Err) := S99 P43 P48 a0
noncomputable def k99 : CSpec := ⟨99, [(.st .dim)], (.tp [.int, .err]), fun x => P99 x, false, []⟩
theorem r99 {S : Seat} (h : Ok1 S 99 tf99) (h43 : Rt S k43) (h48 : Rt S k48) : Rt S k99 := fun x y hy =>
  Ok1.sound h (C := [k43, k48]) (CSound.cons h43 (CSound.cons h48 CSound.nil)) rfl rfl rfl ((s99 P43 P48 x).trans hy) rfl

end Ab
