/-
  Functions of the program as typed code, what they come to, and their contracts: written by program (mk.py).
-/
import Derived.Test.YthjpciiacibnhaaDoorB2
import Derived.KernelRfl
namespace Ab
open Go
set_option linter.unusedVariables false
set_option maxRecDepth 100000

/- tallyhall/tallyref1.Cell -/
def tc144 : TCode :=
  .seq (.region [
  ⟨some 1, .box (.t 0), none, []⟩,
  ⟨some 2, .mov (.c (.int .i64 0)), none, []⟩] [] false)
  (.seq (.seq (.regionJ ⟨[.slot 30 .bool], [3, 4, 5, 6, 7, 8, 9, 10, 11, 12, 13, 14, 15, 16, 17, 18, 19, 20, 21, 22, 23, 24, 25, 26, 27, 28, 29], [], []⟩ [
  ⟨some 3, .fa 0 (.t 1), none, []⟩,
  ⟨some 4, .load none (.t 3), none, []⟩,
  ⟨some 5, .bin .int .lss (.t 4) (.c (.int .i64 0)), none, []⟩,
  ⟨some 6, .mov (.t 5), none, []⟩,
  ⟨some 7, .fa 0 (.t 1), (some (6, false)), []⟩,
  ⟨some 8, .load none (.t 7), (some (6, false)), []⟩,
  ⟨some 9, .bin .int .gtr (.t 8) (.c (.int .i64 2)), (some (6, false)), []⟩,
  ⟨some 10, .pick (.t 6) (.c (.bool true)) (.t 9), none, []⟩,
  ⟨some 11, .mov (.t 10), none, []⟩,
  ⟨some 12, .fa 1 (.t 1), (some (11, false)), []⟩,
  ⟨some 13, .load none (.t 12), (some (11, false)), []⟩,
  ⟨some 14, .bin .int .lss (.t 13) (.c (.int .i64 (-1000000000000))), (some (11, false)), []⟩,
  ⟨some 15, .pick (.t 11) (.c (.bool true)) (.t 14), none, []⟩,
  ⟨some 16, .mov (.t 15), none, []⟩,
  ⟨some 17, .fa 1 (.t 1), (some (16, false)), []⟩,
  ⟨some 18, .load none (.t 17), (some (16, false)), []⟩,
  ⟨some 19, .bin .int .gtr (.t 18) (.c (.int .i64 1000000000000)), (some (16, false)), []⟩,
  ⟨some 20, .pick (.t 16) (.c (.bool true)) (.t 19), none, []⟩,
  ⟨some 21, .mov (.t 20), none, []⟩,
  ⟨some 22, .fa 0 (.t 1), (some (21, false)), []⟩,
  ⟨some 23, .load none (.t 22), (some (21, false)), []⟩,
  ⟨some 24, .bin .int .neq (.t 23) (.c (.int .i64 1)), (some (21, false)), []⟩,
  ⟨some 25, .mov (.t 24), (some (21, false)), []⟩,
  ⟨some 26, .fa 1 (.t 1), (some (25, true)), []⟩,
  ⟨some 27, .load none (.t 26), (some (25, true)), []⟩,
  ⟨some 28, .bin .int .neq (.t 27) (.c (.int .i64 0)), (some (25, true)), []⟩,
  ⟨some 29, .pick (.t 25) (.t 28) (.c (.bool false)), (some (21, false)), []⟩,
  ⟨some 30, .pick (.t 21) (.c (.bool true)) (.t 29), none, []⟩] [] false)
  (.cond (.t 30)
    (.seq (.region [
  ⟨some 2, .mov (.c (.int .i64 1)), none, []⟩] [] false)
    (.ret))
    (.skip)))
  (.seq (.region [
  ⟨some 2, .mov (.c (.int .i64 0)), none, []⟩] [] false)
  (.ret)))
def tf144 : TFunc := { np := 1, nt := 31, res := [.tmp 2], own := false, body := tc144 }
noncomputable def S144 (a0 : Cell) : Option Int :=
  jn (σ := Bool) (α := Int) (br (decide ((Cell.k a0) < (0 : Int)))
  (inlO (some true))
  (br (decide ((2 : Int) < (Cell.k a0)))
  (inlO (some true))
  (br (decide ((Cell.n a0) < (-1000000000000 : Int)))
  (inlO (some true))
  (br (decide ((1000000000000 : Int) < (Cell.n a0)))
  (inlO (some true))
  (br (decide (¬ (Cell.k a0) = (1 : Int)))
  (inlO (some (decide (¬ (Cell.n a0) = (0 : Int)))))
  (inlO (some false))))))) fun x1 =>
  br x1
  (some (1 : Int))
  (some (0 : Int))
theorem s144 (a0 : Cell) : tf144.run [] [(.st .cell)] .int a0 = S144 a0 := by kernel_rfl
noncomputable def P144 (a0 : Cell) : Option Int := S144 a0
noncomputable def k144 : CSpec := ⟨144, [(.st .cell)], .int, fun x => P144 x, false, []⟩
theorem r144 {S : Seat} (h : Ok1 S 144 tf144) : Rt S k144 := fun x y hy =>
  Ok1.sound h (C := []) CSound.nil rfl rfl rfl ((s144 x).trans hy) rfl

/- tallyhall/tallyref1.Of -/
def tc150 : TCode :=
  .seq (.region [
  ⟨some 2, .alloc [.int .i64 0, .int .i64 0], none, []⟩] [] false)
  (.seq (.seq (.regionJ ⟨[.slot 8 .bool], [3, 4, 5, 6, 7], [], []⟩ [
  ⟨some 3, .mov (.t 0), none, []⟩,
  ⟨some 4, .bin .int .lss (.t 3) (.c (.int .i64 (-1000000000000))), none, []⟩,
  ⟨some 5, .mov (.t 4), none, []⟩,
  ⟨some 6, .mov (.t 0), (some (5, false)), []⟩,
  ⟨some 7, .bin .int .gtr (.t 6) (.c (.int .i64 1000000000000)), (some (5, false)), []⟩,
  ⟨some 8, .pick (.t 5) (.c (.bool true)) (.t 7), none, []⟩] [] false)
  (.cond (.t 8)
    (.seq (.region [
  ⟨some 9, .build [.int .i64 0, .int .i64 0] [(0, 1, (.c (.int .i64 2)))], none, []⟩,
  ⟨none, .store 2 (.t 2) (.t 9), none, []⟩] [] false)
    (.ret))
    (.skip)))
  (.seq (.region [
  ⟨some 10, .mov (.t 0), none, []⟩,
  ⟨some 11, .build [.int .i64 0, .int .i64 0] [(0, 1, (.c (.int .i64 1))), (1, 1, (.t 10))], none, []⟩,
  ⟨none, .store 2 (.t 2) (.t 11), none, []⟩] [] false)
  (.ret)))
def tf150 : TFunc := { np := 1, nt := 12, res := [.cell 2 (some 2)], own := false, body := tc150 }
noncomputable def S150 (a0 : Int) : Option Cell :=
  jn (σ := Bool) (α := Cell) (br (decide (a0 < (-1000000000000 : Int)))
  (inlO (some true))
  (inlO (some (decide ((1000000000000 : Int) < a0))))) fun x1 =>
  br x1
  (some (Cell.mk (2 : Int) (0 : Int)))
  (some (Cell.mk (1 : Int) a0))
theorem s150 (a0 : Int) : tf150.run [] [.int] (.st .cell) a0 = S150 a0 := by kernel_rfl
noncomputable def P150 (a0 : Int) : Option Cell := S150 a0
noncomputable def k150 : CSpec := ⟨150, [.int], (.st .cell), fun x => P150 x, false, []⟩
theorem r150 {S : Seat} (h : Ok1 S 150 tf150) : Rt S k150 := fun x y hy =>
  Ok1.sound h (C := []) CSound.nil rfl rfl rfl ((s150 x).trans hy) rfl

/- tallyhall/tallyref1.Digits -/
def tc159 : TCode :=
  .seq (.region [
  ⟨some 2, .mov (.c (.string ⟨#[]⟩)), none, []⟩] [] false)
  (.seq (.seq (.region [
  ⟨some 6, .mov (.t 0), none, []⟩,
  ⟨some 7, .bin .int .lss (.t 6) (.c (.int .i64 0)), none, []⟩] [] false)
  (.cond (.t 7)
    (.seq (.region [
  ⟨some 8, .mov (.t 0), none, []⟩,
  ⟨some 9, .un .neg (.t 8), none, []⟩,
  ⟨some 10, .call false [] 159 [(.t 9)], none, []⟩,
  ⟨some 3, .mov (.t 10), none, []⟩] [] false)
    (.seq (.region [
  ⟨some 11, .mov (.t 3), none, []⟩,
  ⟨some 12, .bin .str .add (.c (.string ⟨#[45]⟩)) (.t 11), none, []⟩,
  ⟨some 2, .mov (.t 12), none, []⟩] [] false)
    (.ret)))
    (.skip)))
  (.seq (.seq (.region [
  ⟨some 13, .mov (.t 0), none, []⟩,
  ⟨some 14, .bin .int .lss (.t 13) (.c (.int .i64 10)), none, []⟩] [] false)
  (.cond (.t 14)
    (.seq (.region [
  ⟨some 15, .mov (.t 0), none, []⟩,
  ⟨some 16, .mov (.t 0), none, []⟩,
  ⟨some 17, .bin .int .add (.t 16) (.c (.int .i64 1)), none, []⟩,
  ⟨some 18, .slc 0 (.c (.string ⟨#[48, 49, 50, 51, 52, 53, 54, 55, 56, 57]⟩)) (some (.t 15)) (some (.t 17)), none, []⟩,
  ⟨some 2, .mov (.t 18), none, []⟩] [] false)
    (.ret))
    (.skip)))
  (.seq (.region [
  ⟨some 19, .mov (.t 0), none, []⟩,
  ⟨some 20, .bin .int .rem (.t 19) (.c (.int .i64 10)), none, []⟩,
  ⟨some 4, .mov (.t 20), none, []⟩] [] false)
  (.seq (.region [
  ⟨some 21, .mov (.t 0), none, []⟩,
  ⟨some 22, .bin .int .quo (.t 21) (.c (.int .i64 10)), none, []⟩,
  ⟨some 23, .call false [] 159 [(.t 22)], none, []⟩,
  ⟨some 5, .mov (.t 23), none, []⟩] [] false)
  (.seq (.region [
  ⟨some 24, .mov (.t 5), none, []⟩,
  ⟨some 25, .mov (.t 4), none, []⟩,
  ⟨some 26, .mov (.t 4), none, []⟩,
  ⟨some 27, .bin .int .add (.t 26) (.c (.int .i64 1)), none, []⟩,
  ⟨some 28, .slc 0 (.c (.string ⟨#[48, 49, 50, 51, 52, 53, 54, 55, 56, 57]⟩)) (some (.t 25)) (some (.t 27)), none, []⟩,
  ⟨some 29, .bin .str .add (.t 24) (.t 28), none, []⟩,
  ⟨some 2, .mov (.t 29), none, []⟩] [] false)
  (.ret))))))
def tf159 : TFunc := { np := 1, nt := 30, res := [.tmp 2], own := false, body := tc159 }
noncomputable def S159 (F159 : Int → (Option ByteArray)) (a0 : Int) : Option ByteArray :=
  br (decide (a0 < (0 : Int)))
  (bno (F159 (wi (0 - a0))) fun y1 =>
  ck (decide (ByteArray.size (⟨#[45]⟩ : ByteArray) + ByteArray.size y1 ≤ 9223372036854775807)) <|
  some ((⟨#[45]⟩ : ByteArray) ++ y1))
  (br (decide (a0 < (10 : Int)))
  (ck (decide (0 ≤ a0 ∧ a0 ≤ wi (a0 + (1 : Int)) ∧ wi (a0 + (1 : Int)) ≤ ((ByteArray.size (⟨#[48, 49, 50, 51, 52, 53, 54, 55, 56, 57]⟩ : ByteArray) : Nat) : Int))) <|
  some (ByteArray.extract (⟨#[48, 49, 50, 51, 52, 53, 54, 55, 56, 57]⟩ : ByteArray) (Int.toNat a0) (Int.toNat (wi (a0 + (1 : Int))))))
  (ck (decide (¬ (10 : Int) = 0)) <|
  ck (decide (¬ (10 : Int) = 0)) <|
  bno (F159 (wi (Int.tdiv a0 (10 : Int)))) fun y2 =>
  ck (decide (0 ≤ Int.tmod a0 (10 : Int) ∧ Int.tmod a0 (10 : Int) ≤ wi ((Int.tmod a0 (10 : Int)) + (1 : Int)) ∧ wi ((Int.tmod a0 (10 : Int)) + (1 : Int)) ≤ ((ByteArray.size (⟨#[48, 49, 50, 51, 52, 53, 54, 55, 56, 57]⟩ : ByteArray) : Nat) : Int))) <|
  ck (decide (ByteArray.size y2 + ByteArray.size (ByteArray.extract (⟨#[48, 49, 50, 51, 52, 53, 54, 55, 56, 57]⟩ : ByteArray) (Int.toNat (Int.tmod a0 (10 : Int))) (Int.toNat (wi ((Int.tmod a0 (10 : Int)) + (1 : Int))))) ≤ 9223372036854775807)) <|
  some (y2 ++ (ByteArray.extract (⟨#[48, 49, 50, 51, 52, 53, 54, 55, 56, 57]⟩ : ByteArray) (Int.toNat (Int.tmod a0 (10 : Int))) (Int.toNat (wi ((Int.tmod a0 (10 : Int)) + (1 : Int))))))))
theorem s159 (F159 : Int → (Option ByteArray)) (a0 : Int) : tf159.run [⟨159, [.int], .str, fun x => F159 x, false, []⟩] [.int] .str a0 = S159 F159 a0 := by kernel_rfl
noncomputable def P159n : Nat → (Int) → Option ByteArray
  | 0 => fun _ => none
  | i + 1 => fun a0 => S159 (P159n i) a0
noncomputable def k159n (i : Nat) : CSpec := ⟨159, [.int], .str, fun x => P159n i x, false, []⟩
theorem r159n {S : Seat} (h : Ok1 S 159 tf159) : ∀ i, Rt S (k159n i)
  | 0 => fun x y hy => (by cases hy)
  | i + 1 => fun x y hy =>
    have h159 := r159n h i
    Ok1.sound h (C := [(k159n i)]) (CSound.cons h159 CSound.nil) rfl rfl rfl ((s159 (P159n i) x).trans hy) rfl
noncomputable def P159 (a0 : Int) : Option ByteArray := P159n (30) a0
noncomputable def k159 : CSpec := ⟨159, [.int], .str, fun x => P159 x, false, []⟩
theorem r159 {S : Seat} (h : Ok1 S 159 tf159) : Rt S k159 := fun x y hy => r159n h (30) x y hy

/- tallyhall/tallyref1.Show -/
def tc145 : TCode :=
  .seq (.region [
  ⟨some 1, .box (.t 0), none, []⟩,
  ⟨some 2, .mov (.c (.string ⟨#[]⟩)), none, []⟩] [] false)
  (.seq (.seq (.region [
  ⟨some 3, .fa 0 (.t 1), none, []⟩,
  ⟨some 4, .load none (.t 3), none, []⟩,
  ⟨some 5, .bin .int .eql (.t 4) (.c (.int .i64 0)), none, []⟩] [] false)
  (.cond (.t 5)
    (.seq (.region [
  ⟨some 2, .mov (.c (.string ⟨#[45]⟩)), none, []⟩] [] false)
    (.ret))
    (.skip)))
  (.seq (.seq (.region [
  ⟨some 6, .fa 0 (.t 1), none, []⟩,
  ⟨some 7, .load none (.t 6), none, []⟩,
  ⟨some 8, .bin .int .eql (.t 7) (.c (.int .i64 2)), none, []⟩] [] false)
  (.cond (.t 8)
    (.seq (.region [
  ⟨some 2, .mov (.c (.string ⟨#[35]⟩)), none, []⟩] [] false)
    (.ret))
    (.skip)))
  (.seq (.region [
  ⟨some 9, .fa 1 (.t 1), none, []⟩,
  ⟨some 10, .load none (.t 9), none, []⟩,
  ⟨some 11, .call false [] 159 [(.t 10)], none, []⟩,
  ⟨some 2, .mov (.t 11), none, []⟩] [] false)
  (.ret))))
def tf145 : TFunc := { np := 1, nt := 12, res := [.tmp 2], own := false, body := tc145 }
noncomputable def S145 (F159 : Int → (Option ByteArray)) (a0 : Cell) : Option ByteArray :=
  br (decide ((Cell.k a0) = (0 : Int)))
  (some (⟨#[45]⟩ : ByteArray))
  (br (decide ((Cell.k a0) = (2 : Int)))
  (some (⟨#[35]⟩ : ByteArray))
  (bno (F159 (Cell.n a0)) fun y1 =>
  some y1))
theorem s145 (F159 : Int → (Option ByteArray)) (a0 : Cell) : tf145.run [⟨159, [.int], .str, fun x => F159 x, false, []⟩] [(.st .cell)] .str a0 = S145 F159 a0 := by kernel_rfl
noncomputable def P145 (a0 : Cell) : Option ByteArray := S145 P159 a0
noncomputable def k145 : CSpec := ⟨145, [(.st .cell)], .str, fun x => P145 x, false, []⟩
theorem r145 {S : Seat} (h : Ok1 S 145 tf145) (h159 : Rt S k159) : Rt S k145 := fun x y hy =>
  Ok1.sound h (C := [k159]) (CSound.cons h159 CSound.nil) rfl rfl rfl ((s145 P159 x).trans hy) rfl

/- tallyhall/tallyref1.Plus -/
def tc146 : TCode :=
  .seq (.region [
  ⟨some 3, .box (.t 0), none, []⟩,
  ⟨some 4, .box (.t 1), none, []⟩,
  ⟨some 6, .alloc [.int .i64 0, .int .i64 0], none, []⟩] [] false)
  (.seq (.seq (.regionJ ⟨[.slot 14 .bool], [7, 8, 9, 10, 11, 12, 13], [], []⟩ [
  ⟨some 7, .fa 0 (.t 3), none, []⟩,
  ⟨some 8, .load none (.t 7), none, []⟩,
  ⟨some 9, .bin .int .eql (.t 8) (.c (.int .i64 2)), none, []⟩,
  ⟨some 10, .mov (.t 9), none, []⟩,
  ⟨some 11, .fa 0 (.t 4), (some (10, false)), []⟩,
  ⟨some 12, .load none (.t 11), (some (10, false)), []⟩,
  ⟨some 13, .bin .int .eql (.t 12) (.c (.int .i64 2)), (some (10, false)), []⟩,
  ⟨some 14, .pick (.t 10) (.c (.bool true)) (.t 13), none, []⟩] [] false)
  (.cond (.t 14)
    (.seq (.region [
  ⟨some 15, .build [.int .i64 0, .int .i64 0] [(0, 1, (.c (.int .i64 2)))], none, []⟩,
  ⟨none, .store 2 (.t 6) (.t 15), none, []⟩] [] false)
    (.ret))
    (.skip)))
  (.seq (.seq (.regionJ ⟨[.slot 23 .bool], [16, 17, 18, 19, 20, 21, 22], [], []⟩ [
  ⟨some 16, .fa 0 (.t 3), none, []⟩,
  ⟨some 17, .load none (.t 16), none, []⟩,
  ⟨some 18, .bin .int .eql (.t 17) (.c (.int .i64 0)), none, []⟩,
  ⟨some 19, .mov (.t 18), none, []⟩,
  ⟨some 20, .fa 0 (.t 4), (some (19, true)), []⟩,
  ⟨some 21, .load none (.t 20), (some (19, true)), []⟩,
  ⟨some 22, .bin .int .eql (.t 21) (.c (.int .i64 0)), (some (19, true)), []⟩,
  ⟨some 23, .pick (.t 19) (.t 22) (.c (.bool false)), none, []⟩] [] false)
  (.cond (.t 23)
    (.seq (.region [
  ⟨some 24, .build [.int .i64 0, .int .i64 0] [], none, []⟩,
  ⟨none, .store 2 (.t 6) (.t 24), none, []⟩] [] false)
    (.ret))
    (.skip)))
  (.seq (.region [
  ⟨some 25, .fa 1 (.t 3), none, []⟩,
  ⟨some 26, .load none (.t 25), none, []⟩,
  ⟨some 27, .mov (.t 2), none, []⟩,
  ⟨some 28, .fa 1 (.t 4), none, []⟩,
  ⟨some 29, .load none (.t 28), none, []⟩,
  ⟨some 30, .bin .int .mul (.t 27) (.t 29), none, []⟩,
  ⟨some 31, .bin .int .add (.t 26) (.t 30), none, []⟩,
  ⟨some 32, .call false [] 150 [(.t 31)], none, []⟩,
  ⟨none, .store 2 (.t 6) (.t 32), none, []⟩] [] false)
  (.ret))))
def tf146 : TFunc := { np := 3, nt := 33, res := [.cell 6 (some 2)], own := false, body := tc146 }
noncomputable def S146 (F150 : Int → (Option Cell)) (a0 : Cell) (a1 : Cell) (a2 : Int) : Option Cell :=
  jn (σ := Bool) (α := Cell) (br (decide ((Cell.k a0) = (2 : Int)))
  (inlO (some true))
  (inlO (some (decide ((Cell.k a1) = (2 : Int)))))) fun x1 =>
  br x1
  (some (Cell.mk (2 : Int) (0 : Int)))
  (jn (σ := Bool) (α := Cell) (br (decide ((Cell.k a0) = (0 : Int)))
  (inlO (some (decide ((Cell.k a1) = (0 : Int)))))
  (inlO (some false))) fun x2 =>
  br x2
  (some (Cell.mk (0 : Int) (0 : Int)))
  (bno (F150 (wi ((Cell.n a0) + (wi (a2 * (Cell.n a1)))))) fun y3 =>
  some y3))
theorem s146 (F150 : Int → (Option Cell)) (a0 : Cell) (a1 : Cell) (a2 : Int) : tf146.run [⟨150, [.int], (.st .cell), fun x => F150 x, false, []⟩] [(.st .cell), (.st .cell), .int] (.st .cell) (a0, a1, a2) = S146 F150 a0 a1 a2 := by kernel_rfl
noncomputable def P146 (a0 : Cell) (a1 : Cell) (a2 : Int) : Option Cell := S146 P150 a0 a1 a2
noncomputable def k146 : CSpec := ⟨146, [(.st .cell), (.st .cell), .int], (.st .cell), fun x => P146 x.1 x.2.1 x.2.2, false, []⟩
theorem r146 {S : Seat} (h : Ok1 S 146 tf146) (h150 : Rt S k150) : Rt S k146 := fun x y hy =>
  Ok1.sound h (C := [k150]) (CSound.cons h150 CSound.nil) rfl rfl rfl ((s146 P150 x.1 x.2.1 x.2.2).trans hy) rfl

/- tallyhall/tallyref1.size -/
def tc160 : TCode :=
  .seq (.region [
  ⟨some 2, .mov (.c (.int .i64 0)), none, []⟩] [] false)
  (.seq (.seq (.region [
  ⟨some 3, .mov (.t 0), none, []⟩,
  ⟨some 4, .bin .int .lss (.t 3) (.c (.int .i64 0)), none, []⟩] [] false)
  (.cond (.t 4)
    (.seq (.region [
  ⟨some 5, .mov (.t 0), none, []⟩,
  ⟨some 6, .un .neg (.t 5), none, []⟩,
  ⟨some 2, .mov (.t 6), none, []⟩] [] false)
    (.ret))
    (.skip)))
  (.seq (.region [
  ⟨some 7, .mov (.t 0), none, []⟩,
  ⟨some 2, .mov (.t 7), none, []⟩] [] false)
  (.ret)))
def tf160 : TFunc := { np := 1, nt := 8, res := [.tmp 2], own := false, body := tc160 }
noncomputable def S160 (a0 : Int) : Option Int :=
  br (decide (a0 < (0 : Int)))
  (some (wi (0 - a0)))
  (some a0)
theorem s160 (a0 : Int) : tf160.run [] [.int] .int a0 = S160 a0 := by kernel_rfl
noncomputable def P160 (a0 : Int) : Option Int := S160 a0
noncomputable def k160 : CSpec := ⟨160, [.int], .int, fun x => P160 x, false, []⟩
theorem r160 {S : Seat} (h : Ok1 S 160 tf160) : Rt S k160 := fun x y hy =>
  Ok1.sound h (C := []) CSound.nil rfl rfl rfl ((s160 x).trans hy) rfl

/- tallyhall/tallyref1.Times -/
def tc147 : TCode :=
  .seq (.region [
  ⟨some 2, .box (.t 0), none, []⟩,
  ⟨some 3, .box (.t 1), none, []⟩,
  ⟨some 4, .alloc [.int .i64 0, .int .i64 0], none, []⟩] [] false)
  (.seq (.seq (.regionJ ⟨[.slot 14 .bool], [7, 8, 9, 10, 11, 12, 13], [], []⟩ [
  ⟨some 7, .fa 0 (.t 2), none, []⟩,
  ⟨some 8, .load none (.t 7), none, []⟩,
  ⟨some 9, .bin .int .eql (.t 8) (.c (.int .i64 2)), none, []⟩,
  ⟨some 10, .mov (.t 9), none, []⟩,
  ⟨some 11, .fa 0 (.t 3), (some (10, false)), []⟩,
  ⟨some 12, .load none (.t 11), (some (10, false)), []⟩,
  ⟨some 13, .bin .int .eql (.t 12) (.c (.int .i64 2)), (some (10, false)), []⟩,
  ⟨some 14, .pick (.t 10) (.c (.bool true)) (.t 13), none, []⟩] [] false)
  (.cond (.t 14)
    (.seq (.region [
  ⟨some 15, .build [.int .i64 0, .int .i64 0] [(0, 1, (.c (.int .i64 2)))], none, []⟩,
  ⟨none, .store 2 (.t 4) (.t 15), none, []⟩] [] false)
    (.ret))
    (.skip)))
  (.seq (.seq (.regionJ ⟨[.slot 23 .bool], [16, 17, 18, 19, 20, 21, 22], [], []⟩ [
  ⟨some 16, .fa 0 (.t 2), none, []⟩,
  ⟨some 17, .load none (.t 16), none, []⟩,
  ⟨some 18, .bin .int .eql (.t 17) (.c (.int .i64 0)), none, []⟩,
  ⟨some 19, .mov (.t 18), none, []⟩,
  ⟨some 20, .fa 0 (.t 3), (some (19, false)), []⟩,
  ⟨some 21, .load none (.t 20), (some (19, false)), []⟩,
  ⟨some 22, .bin .int .eql (.t 21) (.c (.int .i64 0)), (some (19, false)), []⟩,
  ⟨some 23, .pick (.t 19) (.c (.bool true)) (.t 22), none, []⟩] [] false)
  (.cond (.t 23)
    (.seq (.region [
  ⟨some 24, .build [.int .i64 0, .int .i64 0] [], none, []⟩,
  ⟨none, .store 2 (.t 4) (.t 24), none, []⟩] [] false)
    (.ret))
    (.skip)))
  (.seq (.region [
  ⟨some 25, .fa 1 (.t 2), none, []⟩,
  ⟨some 26, .load none (.t 25), none, []⟩,
  ⟨some 27, .call false [] 160 [(.t 26)], none, []⟩,
  ⟨some 5, .mov (.t 27), none, []⟩] [] false)
  (.seq (.region [
  ⟨some 28, .fa 1 (.t 3), none, []⟩,
  ⟨some 29, .load none (.t 28), none, []⟩,
  ⟨some 30, .call false [] 160 [(.t 29)], none, []⟩,
  ⟨some 6, .mov (.t 30), none, []⟩] [] false)
  (.seq (.seq (.regionJ ⟨[.slot 38 .bool], [31, 32, 33, 34, 35, 36, 37], [], []⟩ [
  ⟨some 31, .mov (.t 5), none, []⟩,
  ⟨some 32, .bin .int .gtr (.t 31) (.c (.int .i64 0)), none, []⟩,
  ⟨some 33, .mov (.t 32), none, []⟩,
  ⟨some 34, .mov (.t 6), (some (33, true)), []⟩,
  ⟨some 35, .mov (.t 5), (some (33, true)), []⟩,
  ⟨some 36, .bin .int .quo (.c (.int .i64 1000000000000)) (.t 35), (some (33, true)), []⟩,
  ⟨some 37, .bin .int .gtr (.t 34) (.t 36), (some (33, true)), []⟩,
  ⟨some 38, .pick (.t 33) (.t 37) (.c (.bool false)), none, []⟩] [] false)
  (.cond (.t 38)
    (.seq (.region [
  ⟨some 39, .build [.int .i64 0, .int .i64 0] [(0, 1, (.c (.int .i64 2)))], none, []⟩,
  ⟨none, .store 2 (.t 4) (.t 39), none, []⟩] [] false)
    (.ret))
    (.skip)))
  (.seq (.region [
  ⟨some 40, .fa 1 (.t 2), none, []⟩,
  ⟨some 41, .load none (.t 40), none, []⟩,
  ⟨some 42, .fa 1 (.t 3), none, []⟩,
  ⟨some 43, .load none (.t 42), none, []⟩,
  ⟨some 44, .bin .int .mul (.t 41) (.t 43), none, []⟩,
  ⟨some 45, .call false [] 150 [(.t 44)], none, []⟩,
  ⟨none, .store 2 (.t 4) (.t 45), none, []⟩] [] false)
  (.ret)))))))
def tf147 : TFunc := { np := 2, nt := 46, res := [.cell 4 (some 2)], own := false, body := tc147 }
noncomputable def S147 (F150 : Int → (Option Cell)) (F160 : Int → (Option Int)) (a0 : Cell) (a1 : Cell) : Option Cell :=
  jn (σ := Bool) (α := Cell) (br (decide ((Cell.k a0) = (2 : Int)))
  (inlO (some true))
  (inlO (some (decide ((Cell.k a1) = (2 : Int)))))) fun x1 =>
  br x1
  (some (Cell.mk (2 : Int) (0 : Int)))
  (jn (σ := Bool) (α := Cell) (br (decide ((Cell.k a0) = (0 : Int)))
  (inlO (some true))
  (inlO (some (decide ((Cell.k a1) = (0 : Int)))))) fun x2 =>
  br x2
  (some (Cell.mk (0 : Int) (0 : Int)))
  (bno (F160 (Cell.n a0)) fun y3 =>
  bno (F160 (Cell.n a1)) fun y4 =>
  jn (σ := Bool) (α := Cell) (br (decide ((0 : Int) < y3))
  (ck (decide (¬ y3 = 0)) <|
  inlO (some (decide ((wi (Int.tdiv (1000000000000 : Int) y3)) < y4))))
  (inlO (some false))) fun x5 =>
  br x5
  (some (Cell.mk (2 : Int) (0 : Int)))
  (bno (F150 (wi ((Cell.n a0) * (Cell.n a1)))) fun y6 =>
  some y6)))
theorem s147 (F150 : Int → (Option Cell)) (F160 : Int → (Option Int)) (a0 : Cell) (a1 : Cell) : tf147.run [⟨150, [.int], (.st .cell), fun x => F150 x, false, []⟩,
  ⟨160, [.int], .int, fun x => F160 x, false, []⟩] [(.st .cell), (.st .cell)] (.st .cell) (a0, a1) = S147 F150 F160 a0 a1 := by kernel_rfl
noncomputable def P147 (a0 : Cell) (a1 : Cell) : Option Cell := S147 P150 P160 a0 a1
noncomputable def k147 : CSpec := ⟨147, [(.st .cell), (.st .cell)], (.st .cell), fun x => P147 x.1 x.2, false, []⟩
theorem r147 {S : Seat} (h : Ok1 S 147 tf147) (h150 : Rt S k150) (h160 : Rt S k160) : Rt S k147 := fun x y hy =>
  Ok1.sound h (C := [k150, k160]) (CSound.cons h150 (CSound.cons h160 CSound.nil)) rfl rfl rfl ((s147 P150 P160 x.1 x.2).trans hy) rfl

/- tallyhall/tallyref1.Over -/
def tc148 : TCode :=
  .seq (.region [
  ⟨some 2, .box (.t 0), none, []⟩,
  ⟨some 3, .box (.t 1), none, []⟩,
  ⟨some 4, .alloc [.int .i64 0, .int .i64 0], none, []⟩] [] false)
  (.seq (.seq (.regionJ ⟨[.slot 13 .bool], [6, 7, 8, 9, 10, 11, 12], [], []⟩ [
  ⟨some 6, .fa 0 (.t 2), none, []⟩,
  ⟨some 7, .load none (.t 6), none, []⟩,
  ⟨some 8, .bin .int .eql (.t 7) (.c (.int .i64 2)), none, []⟩,
  ⟨some 9, .mov (.t 8), none, []⟩,
  ⟨some 10, .fa 0 (.t 3), (some (9, false)), []⟩,
  ⟨some 11, .load none (.t 10), (some (9, false)), []⟩,
  ⟨some 12, .bin .int .eql (.t 11) (.c (.int .i64 2)), (some (9, false)), []⟩,
  ⟨some 13, .pick (.t 9) (.c (.bool true)) (.t 12), none, []⟩] [] false)
  (.cond (.t 13)
    (.seq (.region [
  ⟨some 14, .build [.int .i64 0, .int .i64 0] [(0, 1, (.c (.int .i64 2)))], none, []⟩,
  ⟨none, .store 2 (.t 4) (.t 14), none, []⟩] [] false)
    (.ret))
    (.skip)))
  (.seq (.seq (.regionJ ⟨[.slot 22 .bool], [15, 16, 17, 18, 19, 20, 21], [], []⟩ [
  ⟨some 15, .fa 0 (.t 2), none, []⟩,
  ⟨some 16, .load none (.t 15), none, []⟩,
  ⟨some 17, .bin .int .eql (.t 16) (.c (.int .i64 0)), none, []⟩,
  ⟨some 18, .mov (.t 17), none, []⟩,
  ⟨some 19, .fa 0 (.t 3), (some (18, false)), []⟩,
  ⟨some 20, .load none (.t 19), (some (18, false)), []⟩,
  ⟨some 21, .bin .int .eql (.t 20) (.c (.int .i64 0)), (some (18, false)), []⟩,
  ⟨some 22, .pick (.t 18) (.c (.bool true)) (.t 21), none, []⟩] [] false)
  (.cond (.t 22)
    (.seq (.region [
  ⟨some 23, .build [.int .i64 0, .int .i64 0] [], none, []⟩,
  ⟨none, .store 2 (.t 4) (.t 23), none, []⟩] [] false)
    (.ret))
    (.skip)))
  (.seq (.seq (.region [
  ⟨some 24, .fa 1 (.t 3), none, []⟩,
  ⟨some 25, .load none (.t 24), none, []⟩,
  ⟨some 26, .bin .int .eql (.t 25) (.c (.int .i64 0)), none, []⟩] [] false)
  (.cond (.t 26)
    (.seq (.region [
  ⟨some 27, .build [.int .i64 0, .int .i64 0] [(0, 1, (.c (.int .i64 2)))], none, []⟩,
  ⟨none, .store 2 (.t 4) (.t 27), none, []⟩] [] false)
    (.ret))
    (.skip)))
  (.seq (.region [
  ⟨some 28, .fa 1 (.t 2), none, []⟩,
  ⟨some 29, .load none (.t 28), none, [0]⟩,
  ⟨some 30, .call false [] 160 [(.t 29)], none, [1]⟩,
  ⟨some 31, .fa 1 (.t 3), none, []⟩,
  ⟨some 32, .load none (.t 31), none, [3]⟩,
  ⟨some 33, .call false [] 160 [(.t 32)], none, [4, 2]⟩,
  ⟨some 34, .bin .int .quo (.t 30) (.t 33), none, [2, 5]⟩,
  ⟨some 5, .mov (.t 34), none, [6, 5, 0, 1, 2, 3, 4, 5, 6]⟩] [] true)
  (.seq (.seq (.region [
  ⟨some 35, .fa 1 (.t 2), none, []⟩,
  ⟨some 36, .load none (.t 35), none, []⟩,
  ⟨some 37, .bin .int .lss (.t 36) (.c (.int .i64 0)), none, []⟩,
  ⟨some 38, .fa 1 (.t 3), none, []⟩,
  ⟨some 39, .load none (.t 38), none, []⟩,
  ⟨some 40, .bin .int .lss (.t 39) (.c (.int .i64 0)), none, []⟩,
  ⟨some 41, .bin .bool .neq (.t 37) (.t 40), none, []⟩] [] false)
  (.condJ ⟨[.slot 5 .int], [42, 43], [], []⟩ (.t 41)
    (.region [
  ⟨some 42, .mov (.t 5), none, []⟩,
  ⟨some 43, .un .neg (.t 42), none, []⟩,
  ⟨some 5, .mov (.t 43), none, []⟩] [] false)
    (.skip)))
  (.seq (.region [
  ⟨some 44, .mov (.t 5), none, []⟩,
  ⟨some 45, .call false [] 150 [(.t 44)], none, []⟩,
  ⟨none, .store 2 (.t 4) (.t 45), none, []⟩] [] false)
  (.ret)))))))
def tf148 : TFunc := { np := 2, nt := 46, res := [.cell 4 (some 2)], own := false, body := tc148 }
noncomputable def S148 (F150 : Int → (Option Cell)) (F160 : Int → (Option Int)) (a0 : Cell) (a1 : Cell) : Option Cell :=
  jn (σ := Bool) (α := Cell) (br (decide ((Cell.k a0) = (2 : Int)))
  (inlO (some true))
  (inlO (some (decide ((Cell.k a1) = (2 : Int)))))) fun x1 =>
  br x1
  (some (Cell.mk (2 : Int) (0 : Int)))
  (jn (σ := Bool) (α := Cell) (br (decide ((Cell.k a0) = (0 : Int)))
  (inlO (some true))
  (inlO (some (decide ((Cell.k a1) = (0 : Int)))))) fun x2 =>
  br x2
  (some (Cell.mk (0 : Int) (0 : Int)))
  (br (decide ((Cell.n a1) = (0 : Int)))
  (some (Cell.mk (2 : Int) (0 : Int)))
  (bno (F160 (Cell.n a0)) fun y3 =>
  bno (F160 (Cell.n a1)) fun y4 =>
  ck (decide (¬ y4 = 0)) <|
  jn (σ := Int) (α := Cell) (br (decide (¬ (decide ((Cell.n a0) < (0 : Int))) = (decide ((Cell.n a1) < (0 : Int)))))
  (inlO (some (wi (0 - (wi (Int.tdiv y3 y4))))))
  (inlO (some (wi (Int.tdiv y3 y4))))) fun x5 =>
  bno (F150 x5) fun y6 =>
  some y6)))
theorem s148 (F150 : Int → (Option Cell)) (F160 : Int → (Option Int)) (a0 : Cell) (a1 : Cell) : tf148.run [⟨150, [.int], (.st .cell), fun x => F150 x, false, []⟩,
  ⟨160, [.int], .int, fun x => F160 x, false, []⟩] [(.st .cell), (.st .cell)] (.st .cell) (a0, a1) = S148 F150 F160 a0 a1 := by kernel_rfl
noncomputable def P148 (a0 : Cell) (a1 : Cell) : Option Cell := S148 P150 P160 a0 a1
noncomputable def k148 : CSpec := ⟨148, [(.st .cell), (.st .cell)], (.st .cell), fun x => P148 x.1 x.2, false, []⟩
theorem r148 {S : Seat} (h : Ok1 S 148 tf148) (h150 : Rt S k150) (h160 : Rt S k160) : Rt S k148 := fun x y hy =>
  Ok1.sound h (C := [k150, k160]) (CSound.cons h150 (CSound.cons h160 CSound.nil)) rfl rfl rfl ((s148 P150 P160 x.1 x.2).trans hy) rfl

/- tallyhall/tallyref1.Int -/
def tc161 : TCode :=
  .seq (.region [
  ⟨some 4, .mov (.c (.int .i64 0)), none, []⟩,
  ⟨some 5, .mov (.c (.bool false)), none, []⟩] [] false)
  (.seq (.regionJ ⟨[.slot 6 .bool], [9, 10, 11, 12, 13, 14, 15, 16], [], []⟩ [
  ⟨some 9, .mov (.t 0), none, []⟩,
  ⟨some 10, .len true (.t 9), none, []⟩,
  ⟨some 11, .bin .int .gtr (.t 10) (.c (.int .i64 1)), none, []⟩,
  ⟨some 12, .mov (.t 11), none, []⟩,
  ⟨some 13, .mov (.t 0), (some (12, true)), []⟩,
  ⟨some 14, .ix (.t 13) (.c (.int .i64 0)), (some (12, true)), []⟩,
  ⟨some 15, .bin .int .eql (.t 14) (.c (.int .u8 45)), (some (12, true)), []⟩,
  ⟨some 16, .pick (.t 12) (.t 15) (.c (.bool false)), none, []⟩,
  ⟨some 6, .mov (.t 16), none, []⟩] [] false)
  (.seq (.seq (.region [
  ⟨some 17, .mov (.t 6), none, []⟩] [] false)
  (.condJ ⟨[.slot 0 .str], [18, 19], [], []⟩ (.t 17)
    (.region [
  ⟨some 18, .mov (.t 0), none, []⟩,
  ⟨some 19, .slc 0 (.t 18) (some (.c (.int .i64 1))) none, none, []⟩,
  ⟨some 0, .mov (.t 19), none, []⟩] [] false)
    (.skip)))
  (.seq (.seq (.regionJ ⟨[.slot 40 .bool], [20, 21, 22, 23, 24, 25, 26, 27, 28, 29, 30, 31, 32, 33, 34, 35, 36, 37, 38, 39], [], []⟩ [
  ⟨some 20, .mov (.t 0), none, []⟩,
  ⟨some 21, .bin .str .eql (.t 20) (.c (.string ⟨#[]⟩)), none, []⟩,
  ⟨some 22, .mov (.t 21), none, []⟩,
  ⟨some 23, .mov (.t 0), (some (22, false)), []⟩,
  ⟨some 24, .len true (.t 23), (some (22, false)), []⟩,
  ⟨some 25, .mov (.t 1), (some (22, false)), []⟩,
  ⟨some 26, .bin .int .gtr (.t 24) (.t 25), (some (22, false)), []⟩,
  ⟨some 27, .pick (.t 22) (.c (.bool true)) (.t 26), none, []⟩,
  ⟨some 28, .mov (.t 27), none, []⟩,
  ⟨some 29, .mov (.t 0), (some (28, false)), []⟩,
  ⟨some 30, .ix (.t 29) (.c (.int .i64 0)), (some (28, false)), []⟩,
  ⟨some 31, .bin .int .eql (.t 30) (.c (.int .u8 48)), (some (28, false)), []⟩,
  ⟨some 32, .mov (.t 31), (some (28, false)), []⟩,
  ⟨some 33, .mov (.t 0), (some (32, true)), []⟩,
  ⟨some 34, .len true (.t 33), (some (32, true)), []⟩,
  ⟨some 35, .bin .int .gtr (.t 34) (.c (.int .i64 1)), (some (32, true)), []⟩,
  ⟨some 36, .mov (.t 35), (some (32, true)), []⟩,
  ⟨some 37, .mov (.t 6), (some (36, false)), []⟩,
  ⟨some 38, .pick (.t 36) (.c (.bool true)) (.t 37), (some (32, true)), []⟩,
  ⟨some 39, .pick (.t 32) (.t 38) (.c (.bool false)), (some (28, false)), []⟩,
  ⟨some 40, .pick (.t 28) (.c (.bool true)) (.t 39), none, []⟩] [] false)
  (.cond (.t 40)
    (.seq (.region [
  ⟨some 4, .mov (.c (.int .i64 0)), none, []⟩,
  ⟨some 5, .mov (.c (.bool false)), none, []⟩] [] false)
    (.ret))
    (.skip)))
  (.seq (.region [
  ⟨some 7, .mov (.c (.int .i64 0)), none, []⟩] [] false)
  (.seq (.seq (.region [
  ⟨some 8, .mov (.c (.int .i64 0)), none, []⟩] [] false)
  (.loop ⟨[.slot 7 .int, .slot 8 .int], [41, 42, 43, 44, 45, 46, 47, 48, 49, 50, 51, 52, 53, 54, 55, 56, 57, 58, 59, 60, 61, 62, 63, 64], [], []⟩ 0 (.seq (.seq (.region [
  ⟨some 41, .mov (.t 8), none, []⟩,
  ⟨some 42, .mov (.t 0), none, []⟩,
  ⟨some 43, .len true (.t 42), none, []⟩,
  ⟨some 44, .bin .int .lss (.t 41) (.t 43), none, []⟩] [] false)
    (.cond (.t 44)
      (.skip)
      (.exit 0)))
    (.seq (.block 1 (.seq (.seq (.regionJ ⟨[.slot 56 .bool], [47, 48, 49, 50, 51, 52, 53, 54, 55], [], []⟩ [
  ⟨some 47, .mov (.t 0), none, []⟩,
  ⟨some 48, .mov (.t 8), none, []⟩,
  ⟨some 49, .ix (.t 47) (.t 48), none, []⟩,
  ⟨some 50, .bin .int .lss (.t 49) (.c (.int .u8 48)), none, []⟩,
  ⟨some 51, .mov (.t 50), none, []⟩,
  ⟨some 52, .mov (.t 0), (some (51, false)), []⟩,
  ⟨some 53, .mov (.t 8), (some (51, false)), []⟩,
  ⟨some 54, .ix (.t 52) (.t 53), (some (51, false)), []⟩,
  ⟨some 55, .bin .int .gtr (.t 54) (.c (.int .u8 57)), (some (51, false)), []⟩,
  ⟨some 56, .pick (.t 51) (.c (.bool true)) (.t 55), none, []⟩] [] false)
      (.cond (.t 56)
        (.seq (.region [
  ⟨some 4, .mov (.c (.int .i64 0)), none, []⟩,
  ⟨some 5, .mov (.c (.bool false)), none, []⟩] [] false)
        (.ret))
        (.skip)))
      (.region [
  ⟨some 57, .mov (.t 7), none, []⟩,
  ⟨some 58, .bin .int .mul (.t 57) (.c (.int .i64 10)), none, []⟩,
  ⟨some 59, .mov (.t 0), none, []⟩,
  ⟨some 60, .mov (.t 8), none, []⟩,
  ⟨some 61, .ix (.t 59) (.t 60), none, []⟩,
  ⟨some 62, .cvi .i64 (.t 61), none, []⟩,
  ⟨some 63, .bin .int .add (.t 58) (.t 62), none, []⟩,
  ⟨some 64, .bin .int .sub (.t 63) (.c (.int .i64 48)), none, []⟩,
  ⟨some 7, .mov (.t 64), none, []⟩] [] false)))
    (.region [
  ⟨some 45, .mov (.t 8), none, []⟩,
  ⟨some 46, .bin .int .add (.t 45) (.c (.int .i64 1)), none, []⟩,
  ⟨some 8, .mov (.t 46), none, []⟩] [] false)))))
  (.seq (.seq (.region [
  ⟨some 65, .mov (.t 6), none, []⟩] [] false)
  (.condJ ⟨[.slot 7 .int], [66, 67], [], []⟩ (.t 65)
    (.region [
  ⟨some 66, .mov (.t 7), none, []⟩,
  ⟨some 67, .un .neg (.t 66), none, []⟩,
  ⟨some 7, .mov (.t 67), none, []⟩] [] false)
    (.skip)))
  (.seq (.region [
  ⟨some 68, .mov (.t 7), none, []⟩,
  ⟨some 4, .mov (.t 68), none, []⟩,
  ⟨some 5, .mov (.c (.bool true)), none, []⟩] [] false)
  (.ret))))))))
def tf161 : TFunc := { np := 2, nt := 69, res := [.tmp 4, .tmp 5], own := false, body := tc161 }
noncomputable def S161_L1 (x3 : ByteArray) (x6 : (Int × Int)) : Option (LR (Int × Int) (Int × Bool)) :=
  br (decide (x6.2 < ((ByteArray.size x3 : Nat) : Int)))
  (jn (σ := Bool) (α := (LR (Int × Int) (Int × Bool))) (bno (lookI (ByteArray.data x3).toList x6.2) fun y7 =>
  br (decide (((UInt8.toNat y7 : Nat) : Int) < (48 : Int)))
  (inlO (some true))
  (bno (lookI (ByteArray.data x3).toList x6.2) fun y8 =>
  inlO (some (decide ((57 : Int) < ((UInt8.toNat y8 : Nat) : Int)))))) fun x9 =>
  br x9
  (finO (some ((0 : Int), false)))
  (bno (lookI (ByteArray.data x3).toList x6.2) fun y10 =>
  nxO (some (wi ((wi ((wi (x6.1 * (10 : Int))) + (wi ((UInt8.toNat y10 : Nat) : Int)))) - (48 : Int)), wi (x6.2 + (1 : Int))))))
  (dnO (some (x6.1, x6.2)))
noncomputable def S161 (a0 : ByteArray) (a1 : Int) : Option (Int × Bool) :=
  jn (σ := Bool) (α := (Int × Bool)) (br (decide ((1 : Int) < ((ByteArray.size a0 : Nat) : Int)))
  (bno (lookI (ByteArray.data a0).toList (0 : Int)) fun y1 =>
  inlO (some (decide (((UInt8.toNat y1 : Nat) : Int) = (45 : Int)))))
  (inlO (some false))) fun x2 =>
  jn (σ := ByteArray) (α := (Int × Bool)) (br x2
  (ck (decide (0 ≤ (1 : Int) ∧ (1 : Int) ≤ ((ByteArray.size a0 : Nat) : Int) ∧ ((ByteArray.size a0 : Nat) : Int) ≤ ((ByteArray.size a0 : Nat) : Int))) <|
  inlO (some (ByteArray.extract a0 (Int.toNat (1 : Int)) (Int.toNat ((ByteArray.size a0 : Nat) : Int)))))
  (inlO (some a0))) fun x3 =>
  jn (σ := Bool) (α := (Int × Bool)) (br (decide (x3 = (⟨#[]⟩ : ByteArray)))
  (inlO (some true))
  (br (decide (a1 < ((ByteArray.size x3 : Nat) : Int)))
  (inlO (some true))
  (bno (lookI (ByteArray.data x3).toList (0 : Int)) fun y4 =>
  br (decide (((UInt8.toNat y4 : Nat) : Int) = (48 : Int)))
  (br (decide ((1 : Int) < ((ByteArray.size x3 : Nat) : Int)))
  (inlO (some true))
  (inlO (some x2)))
  (inlO (some false))))) fun x5 =>
  br x5
  (some ((0 : Int), false))
  (lp (S161_L1 x3) ((0 : Int), (0 : Int)) fun x11 =>
  jn (σ := Int) (α := (Int × Bool)) (br x2
  (inlO (some (wi (0 - x11.1))))
  (inlO (some x11.1))) fun x12 =>
  some (x12, true))
theorem s161 (a0 : ByteArray) (a1 : Int) : tf161.run [] [.str, .int] (.tp [.int, .bool]) (a0, a1) = S161 a0 a1 := by kernel_rfl
noncomputable def P161 (a0 : ByteArray) (a1 : Int) : Option (Int × Bool) := S161 a0 a1
noncomputable def k161 : CSpec := ⟨161, [.str, .int], (.tp [.int, .bool]), fun x => P161 x.1 x.2, false, []⟩
theorem r161 {S : Seat} (h : Ok1 S 161 tf161) : Rt S k161 := fun x y hy =>
  Ok1.sound h (C := []) CSound.nil rfl rfl rfl ((s161 x.1 x.2).trans hy) rfl

/- tallyhall/tallyref1.Read -/
def tc149 : TCode :=
  .seq (.region [
  ⟨some 2, .alloc [.int .i64 0, .int .i64 0], none, []⟩,
  ⟨some 3, .mov (.c (.int .i64 0)), none, []⟩] [] false)
  (.seq (.seq (.region [
  ⟨some 6, .mov (.t 0), none, []⟩,
  ⟨some 7, .bin .str .eql (.t 6) (.c (.string ⟨#[45]⟩)), none, []⟩] [] false)
  (.cond (.t 7)
    (.seq (.region [
  ⟨some 8, .build [.int .i64 0, .int .i64 0] [], none, []⟩,
  ⟨none, .store 2 (.t 2) (.t 8), none, []⟩,
  ⟨some 3, .mov (.c (.int .i64 0)), none, []⟩] [] false)
    (.ret))
    (.skip)))
  (.seq (.seq (.region [
  ⟨some 9, .mov (.t 0), none, []⟩,
  ⟨some 10, .bin .str .eql (.t 9) (.c (.string ⟨#[35]⟩)), none, []⟩] [] false)
  (.cond (.t 10)
    (.seq (.region [
  ⟨some 11, .build [.int .i64 0, .int .i64 0] [(0, 1, (.c (.int .i64 2)))], none, []⟩,
  ⟨none, .store 2 (.t 2) (.t 11), none, []⟩,
  ⟨some 3, .mov (.c (.int .i64 0)), none, []⟩] [] false)
    (.ret))
    (.skip)))
  (.seq (.region [
  ⟨some 13, .mov (.t 0), none, []⟩,
  ⟨some 14, .call false [] 161 [(.t 13), (.c (.int .i64 15))], none, []⟩,
  ⟨some 12, .mov (.t 14), none, []⟩,
  ⟨some 15, .ext (.t 12) 0, none, []⟩,
  ⟨some 16, .ext (.t 12) 1, none, []⟩,
  ⟨some 4, .mov (.t 15), none, []⟩,
  ⟨some 5, .mov (.t 16), none, []⟩] [] false)
  (.seq (.seq (.region [
  ⟨some 17, .mov (.t 5), none, []⟩,
  ⟨some 18, .un .not (.t 17), none, []⟩] [] false)
  (.cond (.t 18)
    (.seq (.region [
  ⟨some 19, .build [.int .i64 0, .int .i64 0] [], none, []⟩,
  ⟨none, .store 2 (.t 2) (.t 19), none, []⟩,
  ⟨some 3, .mov (.c (.int .i64 2)), none, []⟩] [] false)
    (.ret))
    (.skip)))
  (.seq (.seq (.regionJ ⟨[.slot 25 .bool], [20, 21, 22, 23, 24], [], []⟩ [
  ⟨some 20, .mov (.t 4), none, []⟩,
  ⟨some 21, .bin .int .lss (.t 20) (.c (.int .i64 (-1000000000000))), none, []⟩,
  ⟨some 22, .mov (.t 21), none, []⟩,
  ⟨some 23, .mov (.t 4), (some (22, false)), []⟩,
  ⟨some 24, .bin .int .gtr (.t 23) (.c (.int .i64 1000000000000)), (some (22, false)), []⟩,
  ⟨some 25, .pick (.t 22) (.c (.bool true)) (.t 24), none, []⟩] [] false)
  (.cond (.t 25)
    (.seq (.region [
  ⟨some 26, .build [.int .i64 0, .int .i64 0] [], none, []⟩,
  ⟨none, .store 2 (.t 2) (.t 26), none, []⟩,
  ⟨some 3, .mov (.c (.int .i64 1)), none, []⟩] [] false)
    (.ret))
    (.skip)))
  (.seq (.region [
  ⟨some 27, .mov (.t 4), none, []⟩,
  ⟨some 28, .build [.int .i64 0, .int .i64 0] [(0, 1, (.c (.int .i64 1))), (1, 1, (.t 27))], none, []⟩,
  ⟨none, .store 2 (.t 2) (.t 28), none, []⟩,
  ⟨some 3, .mov (.c (.int .i64 0)), none, []⟩] [] false)
  (.ret)))))))
def tf149 : TFunc := { np := 1, nt := 29, res := [.cell 2 (some 2), .tmp 3], own := false, body := tc149 }
noncomputable def S149 (F161 : ByteArray → Int → (Option (Int × Bool))) (a0 : ByteArray) : Option (Cell × Int) :=
  br (decide (a0 = (⟨#[45]⟩ : ByteArray)))
  (some (Cell.mk (0 : Int) (0 : Int), (0 : Int)))
  (br (decide (a0 = (⟨#[35]⟩ : ByteArray)))
  (some (Cell.mk (2 : Int) (0 : Int), (0 : Int)))
  (bno (F161 a0 (15 : Int)) fun y1 =>
  br (!y1.2)
  (some (Cell.mk (0 : Int) (0 : Int), (2 : Int)))
  (jn (σ := Bool) (α := (Cell × Int)) (br (decide (y1.1 < (-1000000000000 : Int)))
  (inlO (some true))
  (inlO (some (decide ((1000000000000 : Int) < y1.1))))) fun x2 =>
  br x2
  (some (Cell.mk (0 : Int) (0 : Int), (1 : Int)))
  (some (Cell.mk (1 : Int) y1.1, (0 : Int))))))
theorem s149 (F161 : ByteArray → Int → (Option (Int × Bool))) (a0 : ByteArray) : tf149.run [⟨161, [.str, .int], (.tp [.int, .bool]), fun x => F161 x.1 x.2, false, []⟩] [.str] (.tp [(.st .cell), .int]) a0 = S149 F161 a0 := by kernel_rfl
noncomputable def P149 (a0 : ByteArray) : Option (Cell × Int) := S149 P161 a0
noncomputable def k149 : CSpec := ⟨149, [.str], (.tp [(.st .cell), .int]), fun x => P149 x, false, []⟩
theorem r149 {S : Seat} (h : Ok1 S 149 tf149) (h161 : Rt S k161) : Rt S k149 := fun x y hy =>
  Ok1.sound h (C := [k161]) (CSound.cons h161 CSound.nil) rfl rfl rfl ((s149 P161 x).trans hy) rfl

end Ab
