/-
  Functions of the program as typed code, what they come to, and their contracts: written by program (mk.py).
-/
import Derived.Test.YthjpciiacibnhaaDoorB2
import Derived.KernelRfl
import Derived.Test.YthjpciiacibnhaaDoorMR2
import Derived.Test.YthjpciiacibnhaaDoorMRo
import Derived.Test.YthjpciiacibnhaaDoorMS
import Derived.Test.YthjpciiacibnhaaDoorMS2
namespace Ab
open Go
set_option linter.unusedVariables false
set_option maxRecDepth 100000

/- tallyhall/tallylaw1.RollTells -/
def tc115 : TCode :=
  .seq (.region [
  ⟨some 4, .box (.t 0), none, []⟩,
  ⟨some 8, .mov (.c (.bool false)), none, []⟩] [] false)
  (.seq (.region [
  ⟨some 24, .load (some 1) (.t 4), none, []⟩,
  ⟨some 25, .mov (.t 1), none, []⟩,
  ⟨some 26, .call false [] 122 [(.t 24), (.t 25)], none, []⟩,
  ⟨some 9, .mov (.t 26), none, []⟩] [] false)
  (.seq (.seq (.region [
  ⟨some 27, .mov (.t 9), none, []⟩,
  ⟨some 28, .bin .int .eql (.t 27) (.c (.int .i64 0)), none, []⟩] [] false)
  (.condJ ⟨[.slot 9 .int], [29, 30, 31], [], []⟩ (.t 28)
    (.region [
  ⟨some 29, .load (some 1) (.t 4), none, []⟩,
  ⟨some 30, .mov (.t 2), none, []⟩,
  ⟨some 31, .call false [] 123 [(.t 29), (.t 30)], none, []⟩,
  ⟨some 9, .mov (.t 31), none, []⟩] [] false)
    (.skip)))
  (.seq (.region [
  ⟨some 10, .alloc [.int .i64 0, .int .i64 0], none, []⟩] [] false)
  (.seq (.seq (.region [
  ⟨some 32, .mov (.t 9), none, []⟩,
  ⟨some 33, .bin .int .eql (.t 32) (.c (.int .i64 0)), none, []⟩] [] false)
  (.condJ ⟨[.var 10 [.sh .int, .sh .int]], [34, 35, 36, 37], [], []⟩ (.t 33)
    (.region [
  ⟨some 34, .load (some 1) (.t 4), none, []⟩,
  ⟨some 35, .mov (.t 1), none, []⟩,
  ⟨some 36, .mov (.t 2), none, []⟩,
  ⟨some 37, .call false [] 124 [(.t 34), (.t 35), (.t 36)], none, []⟩,
  ⟨none, .store 2 (.t 10) (.t 37), none, []⟩] [] false)
    (.skip)))
  (.seq (.region [
  ⟨some 39, .load (some 1) (.t 4), none, []⟩,
  ⟨some 40, .mov (.t 1), none, []⟩,
  ⟨some 41, .mov (.t 2), none, []⟩,
  ⟨some 42, .call false [] 110 [(.t 39), (.t 40), (.t 41)], none, []⟩,
  ⟨some 38, .mov (.t 42), none, []⟩,
  ⟨some 43, .ext (.t 38) 0, none, []⟩,
  ⟨some 44, .ext (.t 38) 1, none, []⟩,
  ⟨some 11, .alloc [.int .i64 0, .int .i64 0], none, []⟩,
  ⟨none, .store 2 (.t 11) (.t 43), none, []⟩,
  ⟨some 12, .mov (.t 44), none, []⟩] [] false)
  (.seq (.region [
  ⟨some 45, .mov (.t 12), none, []⟩,
  ⟨some 46, .mov (.t 9), none, []⟩,
  ⟨some 47, .call false [] 92 [(.t 45), (.t 46)], none, []⟩,
  ⟨some 13, .mov (.t 47), none, []⟩] [] false)
  (.seq (.region [
  ⟨some 48, .load (some 1) (.t 4), none, []⟩,
  ⟨some 49, .call false [] 125 [(.t 48)], none, []⟩,
  ⟨some 9, .mov (.t 49), none, []⟩] [] false)
  (.seq (.seq (.region [
  ⟨some 50, .mov (.t 9), none, []⟩,
  ⟨some 51, .bin .int .eql (.t 50) (.c (.int .i64 0)), none, []⟩] [] false)
  (.condJ ⟨[.slot 9 .int], [52, 53, 54], [], []⟩ (.t 51)
    (.region [
  ⟨some 52, .load (some 1) (.t 4), none, []⟩,
  ⟨some 53, .mov (.t 2), none, []⟩,
  ⟨some 54, .call false [] 123 [(.t 52), (.t 53)], none, []⟩,
  ⟨some 9, .mov (.t 54), none, []⟩] [] false)
    (.skip)))
  (.seq (.region [
  ⟨some 14, .mov (.c (.slice none 0 0)), none, []⟩] [] false)
  (.seq (.seq (.region [
  ⟨some 55, .mov (.t 9), none, []⟩,
  ⟨some 56, .bin .int .eql (.t 55) (.c (.int .i64 0)), none, []⟩] [] false)
  (.condJ ⟨[.slot 14 (.sl (.sl .int))], [57, 58, 59], [], []⟩ (.t 56)
    (.region [
  ⟨some 57, .load (some 1) (.t 4), none, []⟩,
  ⟨some 58, .mov (.t 2), none, []⟩,
  ⟨some 59, .call true [] 126 [(.t 57), (.t 58)], none, []⟩,
  ⟨some 14, .mov (.t 59), none, []⟩] [] false)
    (.skip)))
  (.seq (.region [
  ⟨some 61, .load (some 1) (.t 4), none, []⟩,
  ⟨some 62, .mov (.t 2), none, []⟩,
  ⟨some 63, .call true [] 127 [(.t 61), (.t 62)], none, []⟩,
  ⟨some 60, .mov (.t 63), none, []⟩,
  ⟨some 64, .ext (.t 60) 0, none, []⟩,
  ⟨some 65, .ext (.t 60) 1, none, []⟩,
  ⟨some 15, .mov (.t 64), none, []⟩,
  ⟨some 12, .mov (.t 65), none, []⟩] [] false)
  (.seq (.region [
  ⟨some 66, .mov (.t 12), none, []⟩,
  ⟨some 67, .mov (.t 9), none, []⟩,
  ⟨some 68, .call false [] 92 [(.t 66), (.t 67)], none, []⟩,
  ⟨some 16, .mov (.t 68), none, []⟩] [] false)
  (.seq (.region [
  ⟨some 69, .mov (.t 15), none, []⟩,
  ⟨some 70, .mov (.t 14), none, []⟩,
  ⟨some 71, .call false [] 128 [(.t 69), (.t 70)], none, []⟩,
  ⟨some 17, .mov (.t 71), none, []⟩] [] false)
  (.seq (.seq (.region [
  ⟨some 72, .mov (.t 9), none, []⟩,
  ⟨some 73, .bin .int .eql (.t 72) (.c (.int .i64 0)), none, []⟩] [] false)
  (.condJ ⟨[.slot 9 .int], [74, 75, 76], [], []⟩ (.t 73)
    (.region [
  ⟨some 74, .load (some 1) (.t 4), none, []⟩,
  ⟨some 75, .mov (.t 3), none, []⟩,
  ⟨some 76, .call false [] 123 [(.t 74), (.t 75)], none, []⟩,
  ⟨some 9, .mov (.t 76), none, []⟩] [] false)
    (.skip)))
  (.seq (.region [
  ⟨some 18, .mov (.c (.int .i64 0)), none, []⟩] [] false)
  (.seq (.seq (.region [
  ⟨some 77, .mov (.t 9), none, []⟩,
  ⟨some 78, .bin .int .eql (.t 77) (.c (.int .i64 0)), none, []⟩] [] false)
  (.condJ ⟨[.slot 9 .int, .slot 18 .int], [19, 20, 21, 79, 80, 81, 82, 83, 84, 85, 86, 87, 88, 89, 90, 91, 92, 93], [], []⟩ (.t 78)
    (.seq (.region [
  ⟨some 80, .load (some 1) (.t 4), none, []⟩,
  ⟨some 81, .mov (.t 2), none, []⟩,
  ⟨some 82, .mov (.t 3), none, []⟩,
  ⟨some 83, .call false [] 129 [(.t 80), (.t 81), (.t 82)], none, []⟩,
  ⟨some 79, .mov (.t 83), none, []⟩,
  ⟨some 84, .ext (.t 79) 0, none, []⟩,
  ⟨some 85, .ext (.t 79) 1, none, []⟩,
  ⟨some 19, .mov (.t 84), none, []⟩,
  ⟨some 20, .mov (.t 85), none, []⟩] [] false)
    (.seq (.region [
  ⟨some 86, .load (some 1) (.t 4), none, []⟩,
  ⟨some 87, .mov (.t 3), none, []⟩,
  ⟨some 88, .call false [] 130 [(.t 86), (.t 87)], none, []⟩,
  ⟨some 21, .mov (.t 88), none, []⟩] [] false)
    (.seq (.regionJ ⟨[.slot 92 .bool], [89, 90, 91], [], []⟩ [
  ⟨some 89, .mov (.t 20), none, []⟩,
  ⟨some 90, .mov (.t 89), none, []⟩,
  ⟨some 91, .mov (.t 21), (some (90, true)), []⟩,
  ⟨some 92, .pick (.t 90) (.t 91) (.c (.bool false)), none, []⟩] [] false)
    (.condJ ⟨[.slot 9 .int, .slot 18 .int], [93], [], []⟩ (.t 92)
      (.region [
  ⟨some 93, .mov (.t 19), none, []⟩,
  ⟨some 18, .mov (.t 93), none, []⟩] [] false)
      (.region [
  ⟨some 9, .mov (.c (.int .i64 3)), none, []⟩] [] false)))))
    (.skip)))
  (.seq (.region [
  ⟨some 95, .load (some 1) (.t 4), none, []⟩,
  ⟨some 96, .mov (.t 2), none, []⟩,
  ⟨some 97, .mov (.t 3), none, []⟩,
  ⟨some 98, .call false [] 111 [(.t 95), (.t 96), (.t 97)], none, []⟩,
  ⟨some 94, .mov (.t 98), none, []⟩,
  ⟨some 99, .ext (.t 94) 0, none, []⟩,
  ⟨some 100, .ext (.t 94) 1, none, []⟩,
  ⟨some 22, .mov (.t 99), none, []⟩,
  ⟨some 12, .mov (.t 100), none, []⟩] [] false)
  (.seq (.region [
  ⟨some 101, .mov (.t 12), none, []⟩,
  ⟨some 102, .mov (.t 9), none, []⟩,
  ⟨some 103, .call false [] 92 [(.t 101), (.t 102)], none, []⟩,
  ⟨some 23, .mov (.t 103), none, []⟩] [] false)
  (.seq (.regionJ ⟨[.slot 8 .bool], [104, 105, 106, 107, 108, 109, 110, 111, 112, 113, 114, 115, 116, 117, 118, 119, 120, 121, 122, 123], [], []⟩ [
  ⟨some 104, .mov (.t 13), none, []⟩,
  ⟨some 105, .mov (.t 104), none, []⟩,
  ⟨some 106, .mov (.t 16), (some (105, true)), []⟩,
  ⟨some 107, .pick (.t 105) (.t 106) (.c (.bool false)), none, []⟩,
  ⟨some 108, .mov (.t 107), none, []⟩,
  ⟨some 109, .mov (.t 23), (some (108, true)), []⟩,
  ⟨some 110, .pick (.t 108) (.t 109) (.c (.bool false)), none, []⟩,
  ⟨some 111, .mov (.t 110), none, []⟩,
  ⟨some 112, .mov (.t 17), (some (111, true)), []⟩,
  ⟨some 113, .pick (.t 111) (.t 112) (.c (.bool false)), none, []⟩,
  ⟨some 114, .mov (.t 113), none, []⟩,
  ⟨some 115, .load (some 2) (.t 11), (some (114, true)), []⟩,
  ⟨some 116, .load (some 2) (.t 10), (some (114, true)), []⟩,
  ⟨some 117, .eqa false [(0, .int), (1, .int)] (.t 115) (.t 116), (some (114, true)), []⟩,
  ⟨some 118, .pick (.t 114) (.t 117) (.c (.bool false)), none, []⟩,
  ⟨some 119, .mov (.t 118), none, []⟩,
  ⟨some 120, .mov (.t 22), (some (119, true)), []⟩,
  ⟨some 121, .mov (.t 18), (some (119, true)), []⟩,
  ⟨some 122, .bin .int .eql (.t 120) (.t 121), (some (119, true)), []⟩,
  ⟨some 123, .pick (.t 119) (.t 122) (.c (.bool false)), none, []⟩,
  ⟨some 8, .mov (.t 123), none, []⟩] [] false)
  (.ret))))))))))))))))))))
def tf115 : TFunc := { np := 4, nt := 124, res := [.tmp 8], own := false, body := tc115 }
noncomputable def S115 (F110 : (List Dim) → (List Entry) → (List Int) → (Option (Cell × Err))) (F111 : (List Dim) → (List Int) → (List Int) → (Option (Int × Err))) (F122 : (List Dim) → (List Entry) → (Option Int)) (F123 : (List Dim) → (List Int) → (Option Int)) (F124 : (List Dim) → (List Entry) → (List Int) → (Option Cell)) (F125 : (List Dim) → (Option Int)) (F126 : (List Dim) → (List Int) → (Option (List (List Int)))) (F127 : (List Dim) → (List Int) → (Option ((List (List Int)) × Err))) (F128 : (List (List Int)) → (List (List Int)) → (Option Bool)) (F129 : (List Dim) → (List Int) → (List Int) → (Option (Int × Bool))) (F130 : (List Dim) → (List Int) → (Option Bool)) (F92 : Err → Int → (Option Bool)) (a0 : (List Dim)) (a1 : (List Entry)) (a2 : (List Int)) (a3 : (List Int)) : Option Bool :=
  bno (F122 a0 a1) fun y1 =>
  jn (σ := Int) (α := Bool) (br (decide (y1 = (0 : Int)))
  (bno (F123 a0 a2) fun y2 =>
  inlO (some y2))
  (inlO (some y1))) fun x3 =>
  jn (σ := (Int × Int)) (α := Bool) (br (decide (x3 = (0 : Int)))
  (bno (F124 a0 a1 a2) fun y4 =>
  inlO (some (Cell.k y4, Cell.n y4)))
  (inlO (some ((0 : Int), (0 : Int))))) fun x5 =>
  bno (F110 a0 a1 a2) fun y6 =>
  bno (F92 y6.2 x3) fun y7 =>
  bno (F125 a0) fun y8 =>
  jn (σ := Int) (α := Bool) (br (decide (y8 = (0 : Int)))
  (bno (F123 a0 a2) fun y9 =>
  inlO (some y9))
  (inlO (some y8))) fun x10 =>
  jn (σ := (List (List Int))) (α := Bool) (br (decide (x10 = (0 : Int)))
  (bno (F126 a0 a2) fun y11 =>
  inlO (some y11))
  (inlO (some ([] : List (List Int))))) fun x12 =>
  bno (F127 a0 a2) fun y13 =>
  bno (F92 y13.2 x10) fun y14 =>
  bno (F128 y13.1 x12) fun y15 =>
  jn (σ := Int) (α := Bool) (br (decide (x10 = (0 : Int)))
  (bno (F123 a0 a3) fun y16 =>
  inlO (some y16))
  (inlO (some x10))) fun x17 =>
  jn (σ := (Int × Int)) (α := Bool) (br (decide (x17 = (0 : Int)))
  (bno (F129 a0 a2 a3) fun y18 =>
  bno (F130 a0 a3) fun y19 =>
  jn (σ := Bool) (α := (Sum (Int × Int) Bool)) (br y18.2
  (inlO (some y19))
  (inlO (some false))) fun x20 =>
  jn (σ := (Int × Int)) (α := (Sum (Int × Int) Bool)) (br x20
  (inlO (some (x17, y18.1)))
  (inlO (some ((3 : Int), (0 : Int))))) fun x21 =>
  inlO (some (x21.1, x21.2)))
  (inlO (some (x17, (0 : Int))))) fun x22 =>
  bno (F111 a0 a2 a3) fun y23 =>
  bno (F92 y23.2 x22.1) fun y24 =>
  jn (σ := Bool) (α := Bool) (br y7
  (br y14
  (br y24
  (br y15
  (br (decide ((Cell.k y6.1) = x5.1) && (decide ((Cell.n y6.1) = x5.2) && true))
  (inlO (some (decide (y23.1 = x22.2))))
  (inlO (some false)))
  (inlO (some false)))
  (inlO (some false)))
  (inlO (some false)))
  (inlO (some false))) fun x25 =>
  some x25
theorem s115 (F110 : (List Dim) → (List Entry) → (List Int) → (Option (Cell × Err))) (F111 : (List Dim) → (List Int) → (List Int) → (Option (Int × Err))) (F122 : (List Dim) → (List Entry) → (Option Int)) (F123 : (List Dim) → (List Int) → (Option Int)) (F124 : (List Dim) → (List Entry) → (List Int) → (Option Cell)) (F125 : (List Dim) → (Option Int)) (F126 : (List Dim) → (List Int) → (Option (List (List Int)))) (F127 : (List Dim) → (List Int) → (Option ((List (List Int)) × Err))) (F128 : (List (List Int)) → (List (List Int)) → (Option Bool)) (F129 : (List Dim) → (List Int) → (List Int) → (Option (Int × Bool))) (F130 : (List Dim) → (List Int) → (Option Bool)) (F92 : Err → Int → (Option Bool)) (a0 : (List Dim)) (a1 : (List Entry)) (a2 : (List Int)) (a3 : (List Int)) : tf115.run [⟨110, [(.st .outl), (.sl .entry), (.sl .int)], (.tp [(.st .cell), .err]), fun x => F110 x.1 x.2.1 x.2.2, false⟩,
  ⟨111, [(.st .outl), (.sl .int), (.sl .int)], (.tp [.int, .err]), fun x => F111 x.1 x.2.1 x.2.2, false⟩,
  ⟨122, [(.st .outl), (.sl .entry)], .int, fun x => F122 x.1 x.2, false⟩,
  ⟨123, [(.st .outl), (.sl .int)], .int, fun x => F123 x.1 x.2, false⟩,
  ⟨124, [(.st .outl), (.sl .entry), (.sl .int)], (.st .cell), fun x => F124 x.1 x.2.1 x.2.2, false⟩,
  ⟨125, [(.st .outl)], .int, fun x => F125 x, false⟩,
  ⟨126, [(.st .outl), (.sl .int)], (.sl (.sl .int)), fun x => F126 x.1 x.2, false⟩,
  ⟨127, [(.st .outl), (.sl .int)], (.tp [(.sl (.sl .int)), .err]), fun x => F127 x.1 x.2, false⟩,
  ⟨128, [(.sl (.sl .int)), (.sl (.sl .int))], .bool, fun x => F128 x.1 x.2, false⟩,
  ⟨129, [(.st .outl), (.sl .int), (.sl .int)], (.tp [.int, .bool]), fun x => F129 x.1 x.2.1 x.2.2, false⟩,
  ⟨130, [(.st .outl), (.sl .int)], .bool, fun x => F130 x.1 x.2, false⟩,
  ⟨92, [.err, .int], .bool, fun x => F92 x.1 x.2, false⟩] [(.st .outl), (.sl .entry), (.sl .int), (.sl .int)] .bool (a0, a1, a2, a3) = S115 F110 F111 F122 F123 F124 F125 F126 F127 F128 F129 F130 F92 a0 a1 a2 a3 := by kernel_rfl
noncomputable def P115 (a0 : (List Dim)) (a1 : (List Entry)) (a2 : (List Int)) (a3 : (List Int)) : Option Bool := S115 P110 P111 P122 P123 P124 P125 P126 P127 P128 P129 P130 P92 a0 a1 a2 a3
noncomputable def k115 : CSpec := ⟨115, [(.st .outl), (.sl .entry), (.sl .int), (.sl .int)], .bool, fun x => P115 x.1 x.2.1 x.2.2.1 x.2.2.2, false⟩
theorem r115 {S : Seat} (h : Ok1 S 115 tf115) (h110 : Rt S k110) (h111 : Rt S k111) (h122 : Rt S k122) (h123 : Rt S k123) (h124 : Rt S k124) (h125 : Rt S k125) (h126 : Rt S k126) (h127 : Rt S k127) (h128 : Rt S k128) (h129 : Rt S k129) (h130 : Rt S k130) (h92 : Rt S k92) : Rt S k115 := fun x y hy =>
  Ok1.sound h (C := [k110, k111, k122, k123, k124, k125, k126, k127, k128, k129, k130, k92]) (CSound.cons h110 (CSound.cons h111 (CSound.cons h122 (CSound.cons h123 (CSound.cons h124 (CSound.cons h125 (CSound.cons h126 (CSound.cons h127 (CSound.cons h128 (CSound.cons h129 (CSound.cons h130 (CSound.cons h92 CSound.nil)))))))))))) rfl rfl rfl ((s115 P110 P111 P122 P123 P124 P125 P126 P127 P128 P129 P130 P92 x.1 x.2.1 x.2.2.1 x.2.2.2).trans hy)

end Ab
