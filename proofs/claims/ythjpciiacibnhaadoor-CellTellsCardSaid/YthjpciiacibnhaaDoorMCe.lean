/-
  Functions of the program as typed code, what they come to, and their contracts: written by program (mk.py).
-/
import Derived.Test.YthjpciiacibnhaaDoorB2
import Derived.KernelRfl
import Derived.Test.YthjpciiacibnhaaDoorMC
import Derived.Test.YthjpciiacibnhaaDoorMSt
namespace Ab
open Go
set_option linter.unusedVariables false
set_option maxRecDepth 100000

/- tallyhall/cell.Print -/
def tc139 : TCode :=
  .seq (.region [
  ⟨some 1, .box (.t 0), none, []⟩,
  ⟨some 2, .mov (.c (.string ⟨#[]⟩)), none, []⟩,
  ⟨some 3, .mov (.c (.nilIface)), none, []⟩] [] false)
  (.seq (.seq (.region [
  ⟨some 5, .load (some 2) (.t 1), none, []⟩,
  ⟨some 6, .call false [] 52 [(.t 5)], none, []⟩,
  ⟨some 4, .mov (.t 6), none, []⟩] [] false)
  (.seq (.region [
  ⟨some 7, .mov (.t 4), none, []⟩,
  ⟨some 8, .eqn false true (.t 7), none, []⟩] [] false)
  (.cond (.t 8)
    (.seq (.region [
  ⟨some 9, .mov (.t 4), none, []⟩,
  ⟨some 2, .mov (.c (.string ⟨#[]⟩)), none, []⟩,
  ⟨some 3, .mov (.t 9), none, []⟩] [] false)
    (.ret))
    (.skip))))
  (.seq (.seq (.region [
  ⟨some 10, .fa 0 (.t 1), none, []⟩,
  ⟨some 11, .load none (.t 10), none, []⟩] [] false)
  (.block 0 (.seq (.region [
  ⟨some 13, .bin .int .eql (.t 11) (.c (.int .i64 0)), none, []⟩,
  ⟨some 12, .mov (.t 13), none, []⟩] [] false)
    (.cond (.t 12)
      (.seq (.region [
  ⟨some 2, .mov (.c (.string ⟨#[45]⟩)), none, []⟩,
  ⟨some 3, .mov (.c (.nilIface)), none, []⟩] [] false)
      (.ret))
      (.seq (.region [
  ⟨some 15, .bin .int .eql (.t 11) (.c (.int .i64 2)), none, []⟩,
  ⟨some 14, .mov (.t 15), none, []⟩] [] false)
      (.cond (.t 14)
        (.seq (.region [
  ⟨some 2, .mov (.c (.string ⟨#[35]⟩)), none, []⟩,
  ⟨some 3, .mov (.c (.nilIface)), none, []⟩] [] false)
        (.ret))
        (.skip)))))))
  (.seq (.region [
  ⟨some 16, .fa 1 (.t 1), none, []⟩,
  ⟨some 17, .load none (.t 16), none, []⟩,
  ⟨some 18, .call false [] 157 [(.t 17)], none, []⟩,
  ⟨some 2, .mov (.t 18), none, []⟩,
  ⟨some 3, .mov (.c (.nilIface)), none, []⟩] [] false)
  (.ret))))
def tf139 : TFunc := { np := 1, nt := 19, res := [.tmp 2, .tmp 3], own := false, body := tc139 }
noncomputable def S139 (F157 : Int → (Option ByteArray)) (F52 : Cell → (Option Err)) (a0 : Cell) : Option (ByteArray × Err) :=
  bno (F52 a0) fun y1 =>
  br (!(Err.isNil y1))
  (some ((⟨#[]⟩ : ByteArray), y1))
  (br (decide ((Cell.k a0) = (0 : Int)))
  (some ((⟨#[45]⟩ : ByteArray), Err.nil))
  (br (decide ((Cell.k a0) = (2 : Int)))
  (some ((⟨#[35]⟩ : ByteArray), Err.nil))
  (bno (F157 (Cell.n a0)) fun y2 =>
  some (y2, Err.nil))))
theorem s139 (F157 : Int → (Option ByteArray)) (F52 : Cell → (Option Err)) (a0 : Cell) : tf139.run [⟨157, [.int], .str, fun x => F157 x, false, []⟩,
  ⟨52, [(.st .cell)], .err, fun x => F52 x, false, []⟩] [(.st .cell)] (.tp [.str, .err]) a0 = S139 F157 F52 a0 := by kernel_rfl
noncomputable def P139 (a0 : Cell) : Option (ByteArray × Err) := S139 P157 P52 a0
noncomputable def k139 : CSpec := ⟨139, [(.st .cell)], (.tp [.str, .err]), fun x => P139 x, false, []⟩
theorem r139 {S : Seat} (h : Ok1 S 139 tf139) (h157 : Rt S k157) (h52 : Rt S k52) : Rt S k139 := fun x y hy =>
  Ok1.sound h (C := [k157, k52]) (CSound.cons h157 (CSound.cons h52 CSound.nil)) rfl rfl rfl ((s139 P157 P52 x).trans hy) rfl

/- tallyhall/cell.Int -/
def tc156 : TCode :=
  .seq (.region [
  ⟨some 4, .mov (.c (.int .i64 0)), none, []⟩,
  ⟨some 5, .mov (.c (.bool false)), none, []⟩] [] false)
  (.seq (.region [
  ⟨some 10, .mov (.t 0), none, []⟩,
  ⟨some 11, .call false [] 167 [(.t 10)], none, []⟩,
  ⟨some 9, .mov (.t 11), none, []⟩,
  ⟨some 12, .ext (.t 9) 0, none, []⟩,
  ⟨some 13, .ext (.t 9) 1, none, []⟩,
  ⟨some 6, .mov (.t 12), none, []⟩,
  ⟨some 7, .mov (.t 13), none, []⟩] [] false)
  (.seq (.region [
  ⟨some 14, .mov (.t 0), none, []⟩,
  ⟨some 15, .len true (.t 14), none, []⟩,
  ⟨some 8, .mov (.t 15), none, []⟩] [] false)
  (.seq (.seq (.region [
  ⟨some 16, .mov (.t 6), none, []⟩,
  ⟨some 17, .bin .int .lss (.t 16) (.c (.int .i64 0)), none, []⟩] [] false)
  (.condJ ⟨[.slot 8 .int], [18, 19], [], []⟩ (.t 17)
    (.region [
  ⟨some 18, .mov (.t 8), none, []⟩,
  ⟨some 19, .bin .int .sub (.t 18) (.c (.int .i64 1)), none, []⟩,
  ⟨some 8, .mov (.t 19), none, []⟩] [] false)
    (.skip)))
  (.seq (.regionJ ⟨[.slot 4 .int, .slot 5 .bool], [20, 21, 22, 23, 24, 25, 26, 27, 28, 29, 30, 31, 32, 33], [], []⟩ [
  ⟨some 20, .mov (.t 6), none, []⟩,
  ⟨some 21, .mov (.t 7), none, []⟩,
  ⟨some 22, .eqn false false (.t 21), none, []⟩,
  ⟨some 23, .mov (.t 22), none, []⟩,
  ⟨some 24, .mov (.t 8), (some (23, true)), []⟩,
  ⟨some 25, .mov (.t 1), (some (23, true)), []⟩,
  ⟨some 26, .bin .int .leq (.t 24) (.t 25), (some (23, true)), []⟩,
  ⟨some 27, .pick (.t 23) (.t 26) (.c (.bool false)), none, []⟩,
  ⟨some 28, .mov (.t 27), none, []⟩,
  ⟨some 29, .mov (.t 6), (some (28, true)), []⟩,
  ⟨some 30, .call false [] 157 [(.t 29)], (some (28, true)), []⟩,
  ⟨some 31, .mov (.t 0), (some (28, true)), []⟩,
  ⟨some 32, .bin .str .eql (.t 30) (.t 31), (some (28, true)), []⟩,
  ⟨some 33, .pick (.t 28) (.t 32) (.c (.bool false)), none, []⟩,
  ⟨some 4, .mov (.t 20), none, []⟩,
  ⟨some 5, .mov (.t 33), none, []⟩] [] false)
  (.ret)))))
def tf156 : TFunc := { np := 2, nt := 34, res := [.tmp 4, .tmp 5], own := false, body := tc156 }
noncomputable def S156 (F157 : Int → (Option ByteArray)) (F167 : ByteArray → (Option (Int × Err))) (a0 : ByteArray) (a1 : Int) : Option (Int × Bool) :=
  bno (F167 a0) fun y1 =>
  jn (σ := Int) (α := (Int × Bool)) (br (decide (y1.1 < (0 : Int)))
  (inlO (some (wi (((ByteArray.size a0 : Nat) : Int) - (1 : Int)))))
  (inlO (some ((ByteArray.size a0 : Nat) : Int)))) fun x2 =>
  jn (σ := (Int × Bool)) (α := (Int × Bool)) (br (Err.isNil y1.2)
  (br (decide (x2 ≤ a1))
  (bno (F157 y1.1) fun y3 =>
  inlO (some (y1.1, decide (y3 = a0))))
  (inlO (some (y1.1, false))))
  (inlO (some (y1.1, false)))) fun x4 =>
  some (x4.1, x4.2)
theorem s156 (F157 : Int → (Option ByteArray)) (F167 : ByteArray → (Option (Int × Err))) (a0 : ByteArray) (a1 : Int) : tf156.run [⟨157, [.int], .str, fun x => F157 x, false, []⟩,
  ⟨167, [.str], (.tp [.int, .err]), fun x => F167 x, false, []⟩] [.str, .int] (.tp [.int, .bool]) (a0, a1) = S156 F157 F167 a0 a1 := by kernel_rfl
noncomputable def P156 (a0 : ByteArray) (a1 : Int) : Option (Int × Bool) := S156 P157 P167 a0 a1
noncomputable def k156 : CSpec := ⟨156, [.str, .int], (.tp [.int, .bool]), fun x => P156 x.1 x.2, false, []⟩
theorem r156 {S : Seat} (h : Ok1 S 156 tf156) (h157 : Rt S k157) (h167 : Rt S k167) : Rt S k156 := fun x y hy =>
  Ok1.sound h (C := [k157, k167]) (CSound.cons h157 (CSound.cons h167 CSound.nil)) rfl rfl rfl ((s156 P157 P167 x.1 x.2).trans hy) rfl

/- tallyhall/cell.Parse -/
def tc138 : TCode :=
  .seq (.region [
  ⟨some 2, .alloc [.int .i64 0, .int .i64 0], none, []⟩,
  ⟨some 3, .mov (.c (.nilIface)), none, []⟩] [] false)
  (.seq (.seq (.region [
  ⟨some 6, .mov (.t 0), none, []⟩] [] false)
  (.block 0 (.seq (.region [
  ⟨some 8, .bin .str .eql (.t 6) (.c (.string ⟨#[45]⟩)), none, []⟩,
  ⟨some 7, .mov (.t 8), none, []⟩] [] false)
    (.cond (.t 7)
      (.seq (.region [
  ⟨some 9, .build [.int .i64 0, .int .i64 0] [], none, []⟩,
  ⟨none, .store 2 (.t 2) (.t 9), none, []⟩,
  ⟨some 3, .mov (.c (.nilIface)), none, []⟩] [] false)
      (.ret))
      (.seq (.region [
  ⟨some 11, .bin .str .eql (.t 6) (.c (.string ⟨#[35]⟩)), none, []⟩,
  ⟨some 10, .mov (.t 11), none, []⟩] [] false)
      (.cond (.t 10)
        (.seq (.region [
  ⟨some 12, .build [.int .i64 0, .int .i64 0] [(0, 1, (.c (.int .i64 2)))], none, []⟩,
  ⟨none, .store 2 (.t 2) (.t 12), none, []⟩,
  ⟨some 3, .mov (.c (.nilIface)), none, []⟩] [] false)
        (.ret))
        (.skip)))))))
  (.seq (.region [
  ⟨some 14, .mov (.t 0), none, []⟩,
  ⟨some 15, .call false [] 156 [(.t 14), (.c (.int .i64 15))], none, []⟩,
  ⟨some 13, .mov (.t 15), none, []⟩,
  ⟨some 16, .ext (.t 13) 0, none, []⟩,
  ⟨some 17, .ext (.t 13) 1, none, []⟩,
  ⟨some 4, .mov (.t 16), none, []⟩,
  ⟨some 5, .mov (.t 17), none, []⟩] [] false)
  (.seq (.block 1 (.seq (.region [
  ⟨some 19, .mov (.t 5), none, []⟩,
  ⟨some 20, .un .not (.t 19), none, []⟩,
  ⟨some 18, .mov (.t 20), none, []⟩] [] false)
    (.cond (.t 18)
      (.seq (.region [
  ⟨some 21, .build [.int .i64 0, .int .i64 0] [], none, []⟩,
  ⟨some 22, .ifc 1 (.c (.int .i64 2)), none, []⟩,
  ⟨none, .store 2 (.t 2) (.t 21), none, []⟩,
  ⟨some 3, .mov (.t 22), none, []⟩] [] false)
      (.ret))
      (.seq (.region [
  ⟨some 24, .mov (.t 4), none, []⟩,
  ⟨some 25, .call false [] 30 [(.t 24)], none, []⟩,
  ⟨some 26, .un .not (.t 25), none, []⟩,
  ⟨some 23, .mov (.t 26), none, []⟩] [] false)
      (.cond (.t 23)
        (.seq (.region [
  ⟨some 27, .build [.int .i64 0, .int .i64 0] [], none, []⟩,
  ⟨some 28, .ifc 1 (.c (.int .i64 1)), none, []⟩,
  ⟨none, .store 2 (.t 2) (.t 27), none, []⟩,
  ⟨some 3, .mov (.t 28), none, []⟩] [] false)
        (.ret))
        (.skip))))))
  (.seq (.region [
  ⟨some 29, .mov (.t 4), none, []⟩,
  ⟨some 30, .call false [] 8 [(.t 29)], none, []⟩,
  ⟨none, .store 2 (.t 2) (.t 30), none, []⟩,
  ⟨some 3, .mov (.c (.nilIface)), none, []⟩] [] false)
  (.ret)))))
def tf138 : TFunc := { np := 1, nt := 31, res := [.cell 2 (some 2), .tmp 3], own := false, body := tc138 }
noncomputable def S138 (F156 : ByteArray → Int → (Option (Int × Bool))) (F30 : Int → (Option Bool)) (F8 : Int → (Option Cell)) (a0 : ByteArray) : Option (Cell × Err) :=
  br (decide (a0 = (⟨#[45]⟩ : ByteArray)))
  (some (Cell.mk (0 : Int) (0 : Int), Err.nil))
  (br (decide (a0 = (⟨#[35]⟩ : ByteArray)))
  (some (Cell.mk (2 : Int) (0 : Int), Err.nil))
  (bno (F156 a0 (15 : Int)) fun y1 =>
  br (!y1.2)
  (some (Cell.mk (0 : Int) (0 : Int), Err.no (2 : Int)))
  (bno (F30 y1.1) fun y2 =>
  br (!y2)
  (some (Cell.mk (0 : Int) (0 : Int), Err.no (1 : Int)))
  (bno (F8 y1.1) fun y3 =>
  some (y3, Err.nil)))))
theorem s138 (F156 : ByteArray → Int → (Option (Int × Bool))) (F30 : Int → (Option Bool)) (F8 : Int → (Option Cell)) (a0 : ByteArray) : tf138.run [⟨156, [.str, .int], (.tp [.int, .bool]), fun x => F156 x.1 x.2, false, []⟩,
  ⟨30, [.int], .bool, fun x => F30 x, false, []⟩,
  ⟨8, [.int], (.st .cell), fun x => F8 x, false, []⟩] [.str] (.tp [(.st .cell), .err]) a0 = S138 F156 F30 F8 a0 := by kernel_rfl
noncomputable def P138 (a0 : ByteArray) : Option (Cell × Err) := S138 P156 P30 P8 a0
noncomputable def k138 : CSpec := ⟨138, [.str], (.tp [(.st .cell), .err]), fun x => P138 x, false, []⟩
theorem r138 {S : Seat} (h : Ok1 S 138 tf138) (h156 : Rt S k156) (h30 : Rt S k30) (h8 : Rt S k8) : Rt S k138 := fun x y hy =>
  Ok1.sound h (C := [k156, k30, k8]) (CSound.cons h156 (CSound.cons h30 (CSound.cons h8 CSound.nil))) rfl rfl rfl ((s138 P156 P30 P8 x).trans hy) rfl

end Ab
