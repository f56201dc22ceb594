/-
  Functions of the program as typed code, what they come to, and their contracts: written by program (mk.py).
-/
import Derived.Test.YtcabflannjeigaaB2
import Derived.KernelRfl
import Derived.Test.YtcabflannjeigaaMO
namespace Ab
open Go
set_option linter.unusedVariables false
set_option maxRecDepth 100000

/- tallyhall/tree.ready -/
/- tallyhall/tree.PartsOf -/
def tc47 : TCode :=
  .seq (.region [
  ⟨some 2, .box (.t 0), none, []⟩,
  ⟨some 4, .mov (.c (.slice none 0 0)), none, []⟩] [] false)
  (.seq (.seq (.region [
  ⟨some 7, .fa 2 (.t 2), none, []⟩,
  ⟨some 8, .load none (.t 7), none, []⟩,
  ⟨some 9, .len false (.t 8), none, []⟩,
  ⟨some 10, .mov (.c (.int .i64 0)), none, []⟩] [] false)
  (.loop ⟨[.row 4 22 .int, .slot 10 .int], [5, 6, 11, 12, 13, 14, 15, 16, 17, 18, 19, 20, 21, 22, 23], [6, 21], []⟩ 0 (.seq (.region [
  ⟨some 11, .bin .int .lss (.t 10) (.t 9), none, []⟩] [] false)
    (.seq (.cond (.t 11)
      (.skip)
      (.exit 0))
    (.seq (.block 1 (.seq (.region [
  ⟨some 12, .mov (.t 10), none, []⟩,
  ⟨some 13, .ia 4 (.t 8) (.t 10), none, []⟩,
  ⟨some 14, .load (some 4) (.t 13), none, []⟩,
  ⟨some 6, .alloc [.string ⟨#[]⟩, .int .i64 0, .int .i64 0, .string ⟨#[]⟩], none, []⟩,
  ⟨some 5, .mov (.t 12), none, []⟩,
  ⟨none, .store 4 (.t 6) (.t 14), none, []⟩] [] false)
      (.seq (.region [
  ⟨some 15, .fa 1 (.t 6), none, []⟩,
  ⟨some 16, .load none (.t 15), none, []⟩,
  ⟨some 17, .mov (.t 1), none, []⟩,
  ⟨some 18, .bin .int .eql (.t 16) (.t 17), none, []⟩] [] false)
      (.condJ ⟨[.row 4 22 .int], [19, 20, 21, 22], [21], []⟩ (.t 18)
        (.region [
  ⟨some 19, .mov (.t 4), none, []⟩,
  ⟨some 20, .mov (.t 5), none, []⟩,
  ⟨some 21, .bslice false 1 [.int .i64 0] 1 [(0, (.t 20))], none, []⟩,
  ⟨some 22, .app 1 (.t 19) (.t 21), none, []⟩,
  ⟨some 4, .mov (.t 22), none, []⟩] [] false)
        (.skip)))))
    (.region [
  ⟨some 23, .bin .int .add (.t 10) (.c (.int .i64 1)), none, []⟩,
  ⟨some 10, .mov (.t 23), none, []⟩] [] false))))))
  (.seq (.region [
  ⟨some 24, .mov (.t 4), none, []⟩,
  ⟨some 4, .mov (.t 24), none, []⟩] [] false)
  (.ret)))
def tf47 : TFunc := { np := 2, nt := 25, res := [.tmp 4], own := false, body := tc47 }
noncomputable def S47_L1 (a0 : Dim) (a1 : Int) (x1 : ((List Int) × Int)) : Option (LR ((List Int) × Int) (List Int)) :=
  br (decide (x1.2 < ((List.length (Dim.members a0) : Nat) : Int)))
  (bno (lookI (Dim.members a0) x1.2) fun y2 =>
  jn (σ := (List Int)) (α := (LR ((List Int) × Int) (List Int))) (br (decide ((Member.parent y2) = a1))
  (ck (decide (List.length x1.1 + List.length ([x1.2] : List Int) ≤ roomA)) <|
  inlO (some (x1.1 ++ ([x1.2] : List Int))))
  (inlO (some x1.1))) fun x3 =>
  nxO (some (x3, wi (x1.2 + (1 : Int)))))
  (dnO (some (x1.1, x1.2)))
noncomputable def S47 (a0 : Dim) (a1 : Int) : Option (List Int) :=
  lp (S47_L1 a0 a1) (([] : List Int), (0 : Int)) fun x4 =>
  some x4.1
theorem s47 (a0 : Dim) (a1 : Int) : tf47.run [] [(.st .dim), .int] (.sl .int) (a0, a1) = S47 a0 a1 := by kernel_rfl
noncomputable def P47 (a0 : Dim) (a1 : Int) : Option (List Int) := S47 a0 a1
noncomputable def k47 : CSpec := ⟨47, [(.st .dim), .int], (.sl .int), fun x => P47 x.1 x.2, false, []⟩
theorem r47 {S : Seat} (h : Ok1 S 47 tf47) : Rt S k47 := fun x y hy =>
  Ok1.sound h (C := []) CSound.nil rfl rfl rfl ((s47 x.1 x.2).trans hy) rfl

/- tallyhall/tree.IsLeaf -/
def tc44 : TCode :=
  .seq (.region [
  ⟨some 2, .box (.t 0), none, []⟩,
  ⟨some 4, .mov (.c (.bool false)), none, []⟩] [] false)
  (.seq (.regionJ ⟨[.slot 4 .bool], [5, 6, 7, 8, 9, 10, 11, 12, 13, 14, 15, 16, 17, 18], [], []⟩ [
  ⟨some 5, .fa 2 (.t 2), none, []⟩,
  ⟨some 6, .load none (.t 5), none, []⟩,
  ⟨some 7, .mov (.t 1), none, []⟩,
  ⟨some 8, .ia 4 (.t 6) (.t 7), none, []⟩,
  ⟨some 9, .fa 3 (.t 8), none, []⟩,
  ⟨some 10, .load none (.t 9), none, []⟩,
  ⟨some 11, .bin .str .eql (.t 10) (.c (.string ⟨#[]⟩)), none, []⟩,
  ⟨some 12, .mov (.t 11), none, []⟩,
  ⟨some 13, .load (some 3) (.t 2), (some (12, true)), []⟩,
  ⟨some 14, .mov (.t 1), (some (12, true)), []⟩,
  ⟨some 15, .call true [] 47 [(.t 13), (.t 14)], (some (12, true)), []⟩,
  ⟨some 16, .len false (.t 15), (some (12, true)), []⟩,
  ⟨some 17, .bin .int .eql (.t 16) (.c (.int .i64 0)), (some (12, true)), []⟩,
  ⟨some 18, .pick (.t 12) (.t 17) (.c (.bool false)), none, []⟩,
  ⟨some 4, .mov (.t 18), none, []⟩] [] false)
  (.ret))
def tf44 : TFunc := { np := 2, nt := 19, res := [.tmp 4], own := false, body := tc44 }
noncomputable def S44 (F47 : Dim → Int → (Option (List Int))) (a0 : Dim) (a1 : Int) : Option Bool :=
  jn (σ := Bool) (α := Bool) (bno (lookI (Dim.members a0) a1) fun y1 =>
  br (decide ((Member.formula y1) = (⟨#[]⟩ : ByteArray)))
  (bno (F47 a0 a1) fun y2 =>
  inlO (some (decide (((List.length y2 : Nat) : Int) = (0 : Int)))))
  (inlO (some false))) fun x3 =>
  some x3
theorem s44 (F47 : Dim → Int → (Option (List Int))) (a0 : Dim) (a1 : Int) : tf44.run [⟨47, [(.st .dim), .int], (.sl .int), fun x => F47 x.1 x.2, false, []⟩] [(.st .dim), .int] .bool (a0, a1) = S44 F47 a0 a1 := by kernel_rfl
noncomputable def P44 (a0 : Dim) (a1 : Int) : Option Bool := S44 P47 a0 a1
noncomputable def k44 : CSpec := ⟨44, [(.st .dim), .int], .bool, fun x => P44 x.1 x.2, false, []⟩
theorem r44 {S : Seat} (h : Ok1 S 44 tf44) (h47 : Rt S k47) : Rt S k44 := fun x y hy =>
  Ok1.sound h (C := [k47]) (CSound.cons h47 CSound.nil) rfl rfl rfl ((s44 P47 x.1 x.2).trans hy) rfl

/- tallyhall/tree.up -/
def tc48 : TCode :=
  .seq (.region [
  ⟨some 2, .box (.t 0), none, []⟩,
  ⟨some 4, .mov (.c (.slice none 0 0)), none, []⟩] [] false)
  (.seq (.loop ⟨[.slot 1 .int, .row 4 10 .int], [5, 6, 7, 8, 9, 10, 11, 12, 13, 14, 15, 16], [9], []⟩ 0 (.seq (.seq (.region [
  ⟨some 5, .mov (.t 1), none, []⟩,
  ⟨some 6, .bin .int .geq (.t 5) (.c (.int .i64 0)), none, []⟩] [] false)
    (.cond (.t 6)
      (.skip)
      (.exit 0)))
    (.block 1 (.seq (.region [
  ⟨some 7, .mov (.t 4), none, []⟩,
  ⟨some 8, .mov (.t 1), none, []⟩,
  ⟨some 9, .bslice false 1 [.int .i64 0] 1 [(0, (.t 8))], none, []⟩,
  ⟨some 10, .app 1 (.t 7) (.t 9), none, []⟩,
  ⟨some 4, .mov (.t 10), none, []⟩] [] false)
      (.region [
  ⟨some 11, .fa 2 (.t 2), none, []⟩,
  ⟨some 12, .load none (.t 11), none, []⟩,
  ⟨some 13, .mov (.t 1), none, []⟩,
  ⟨some 14, .ia 4 (.t 12) (.t 13), none, []⟩,
  ⟨some 15, .fa 1 (.t 14), none, []⟩,
  ⟨some 16, .load none (.t 15), none, []⟩,
  ⟨some 1, .mov (.t 16), none, []⟩] [] false)))))
  (.seq (.region [
  ⟨some 17, .mov (.t 4), none, []⟩,
  ⟨some 4, .mov (.t 17), none, []⟩] [] false)
  (.ret)))
def tf48 : TFunc := { np := 2, nt := 18, res := [.tmp 4], own := false, body := tc48 }
noncomputable def S48_L1 (a0 : Dim) (x1 : (Int × (List Int))) : Option (LR (Int × (List Int)) (List Int)) :=
  br (decide ((0 : Int) ≤ x1.1))
  (ck (decide (List.length x1.2 + List.length ([x1.1] : List Int) ≤ roomA)) <|
  bno (lookI (Dim.members a0) x1.1) fun y2 =>
  nxO (some (Member.parent y2, x1.2 ++ ([x1.1] : List Int))))
  (dnO (some (x1.1, x1.2)))
noncomputable def S48 (a0 : Dim) (a1 : Int) : Option (List Int) :=
  lp (S48_L1 a0) (a1, ([] : List Int)) fun x3 =>
  some x3.2
theorem s48 (a0 : Dim) (a1 : Int) : tf48.run [] [(.st .dim), .int] (.sl .int) (a0, a1) = S48 a0 a1 := by kernel_rfl
noncomputable def P48 (a0 : Dim) (a1 : Int) : Option (List Int) := S48 a0 a1
noncomputable def k48 : CSpec := ⟨48, [(.st .dim), .int], (.sl .int), fun x => P48 x.1 x.2, false, []⟩
theorem r48 {S : Seat} (h : Ok1 S 48 tf48) : Rt S k48 := fun x y hy =>
  Ok1.sound h (C := []) CSound.nil rfl rfl rfl ((s48 x.1 x.2).trans hy) rfl

/- tallyhall/tree.WeightOf -/
def tc45 : TCode :=
  .seq (.region [
  ⟨some 3, .box (.t 0), none, []⟩,
  ⟨some 6, .mov (.c (.int .i64 0)), none, []⟩,
  ⟨some 7, .mov (.c (.bool false)), none, []⟩] [] false)
  (.seq (.region [
  ⟨some 8, .mov (.c (.int .i64 1)), none, []⟩] [] false)
  (.seq (.seq (.region [
  ⟨some 11, .load (some 3) (.t 3), none, []⟩,
  ⟨some 12, .mov (.t 2), none, []⟩,
  ⟨some 13, .call true [] 48 [(.t 11), (.t 12)], none, []⟩,
  ⟨some 14, .len false (.t 13), none, []⟩,
  ⟨some 15, .mov (.c (.int .i64 0)), none, []⟩] [] false)
  (.loop ⟨[.slot 8 .int, .slot 15 .int], [10, 16, 17, 18, 19, 20, 21, 23, 24, 25, 26, 27, 28, 29, 30, 31], [], []⟩ 0 (.seq (.region [
  ⟨some 16, .bin .int .lss (.t 15) (.t 14), none, []⟩] [] false)
    (.seq (.cond (.t 16)
      (.skip)
      (.exit 0))
    (.seq (.block 1 (.seq (.region [
  ⟨some 17, .ia 1 (.t 13) (.t 15), none, []⟩,
  ⟨some 18, .load none (.t 17), none, []⟩,
  ⟨some 10, .mov (.t 18), none, []⟩] [] false)
      (.seq (.seq (.region [
  ⟨some 19, .mov (.t 10), none, []⟩,
  ⟨some 20, .mov (.t 1), none, []⟩,
  ⟨some 21, .bin .int .eql (.t 19) (.t 20), none, []⟩] [] false)
      (.cond (.t 21)
        (.seq (.region [
  ⟨some 22, .mov (.t 8), none, []⟩,
  ⟨some 6, .mov (.t 22), none, []⟩,
  ⟨some 7, .mov (.c (.bool true)), none, []⟩] [] false)
        (.ret))
        (.skip)))
      (.region [
  ⟨some 23, .mov (.t 8), none, []⟩,
  ⟨some 24, .fa 2 (.t 3), none, []⟩,
  ⟨some 25, .load none (.t 24), none, []⟩,
  ⟨some 26, .mov (.t 10), none, []⟩,
  ⟨some 27, .ia 4 (.t 25) (.t 26), none, []⟩,
  ⟨some 28, .fa 2 (.t 27), none, []⟩,
  ⟨some 29, .load none (.t 28), none, []⟩,
  ⟨some 30, .bin .int .mul (.t 23) (.t 29), none, []⟩,
  ⟨some 8, .mov (.t 30), none, []⟩] [] false))))
    (.region [
  ⟨some 31, .bin .int .add (.t 15) (.c (.int .i64 1)), none, []⟩,
  ⟨some 15, .mov (.t 31), none, []⟩] [] false))))))
  (.seq (.region [
  ⟨some 6, .mov (.c (.int .i64 0)), none, []⟩,
  ⟨some 7, .mov (.c (.bool false)), none, []⟩] [] false)
  (.ret))))
def tf45 : TFunc := { np := 3, nt := 32, res := [.tmp 6, .tmp 7], own := false, body := tc45 }
noncomputable def S45_L1 (a0 : Dim) (a1 : Int) (y1 : (List Int)) (x2 : (Int × Int)) : Option (LR (Int × Int) (Int × Bool)) :=
  br (decide (x2.2 < ((List.length y1 : Nat) : Int)))
  (bno (lookI y1 x2.2) fun y3 =>
  br (decide (y3 = a1))
  (finO (some (x2.1, true)))
  (bno (lookI (Dim.members a0) y3) fun y4 =>
  nxO (some (wi (x2.1 * (Member.sign y4)), wi (x2.2 + (1 : Int))))))
  (dnO (some (x2.1, x2.2)))
noncomputable def S45 (F48 : Dim → Int → (Option (List Int))) (a0 : Dim) (a1 : Int) (a2 : Int) : Option (Int × Bool) :=
  bno (F48 a0 a2) fun y1 =>
  lp (S45_L1 a0 a1 y1) ((1 : Int), (0 : Int)) fun x5 =>
  some ((0 : Int), false)
theorem s45 (F48 : Dim → Int → (Option (List Int))) (a0 : Dim) (a1 : Int) (a2 : Int) : tf45.run [⟨48, [(.st .dim), .int], (.sl .int), fun x => F48 x.1 x.2, false, []⟩] [(.st .dim), .int, .int] (.tp [.int, .bool]) (a0, a1, a2) = S45 F48 a0 a1 a2 := by kernel_rfl
noncomputable def P45 (a0 : Dim) (a1 : Int) (a2 : Int) : Option (Int × Bool) := S45 P48 a0 a1 a2
noncomputable def k45 : CSpec := ⟨45, [(.st .dim), .int, .int], (.tp [.int, .bool]), fun x => P45 x.1 x.2.1 x.2.2, false, []⟩
theorem r45 {S : Seat} (h : Ok1 S 45 tf45) (h48 : Rt S k48) : Rt S k45 := fun x y hy =>
  Ok1.sound h (C := [k48]) (CSound.cons h48 CSound.nil) rfl rfl rfl ((s45 P48 x.1 x.2.1 x.2.2).trans hy) rfl

/- tallyhall/tree.Weight -/
/- tallyhall/tree.LeafsOf -/
/- tallyhall/tree.Leafs -/
/- tallyhall/tree.Parts -/
/- tallyhall/tree.Path -/
/- tallyhall/tree.Leaf -/
/- tallyhall/tree.Depth -/
end Ab
