/-
  The code of functions, as the abstract machine has it: written by program (Print.lean) off the translation.
-/
import Derived.Test.YtkedlclobjhkfaaAbC
namespace Ab
open Go

/- tallyhall/tallylaw1.Names -/
def b0 : ACode :=
  .seq (.region [
    ⟨some 0, .mov (.c (.bool false)), none, []⟩] false)
  (.seq (.region [
    ⟨some 1, .mov (.c (.bool true)), none, []⟩] false)
  (.seq (.region [
    ⟨some 2, .mov (.c (.bool true)), none, []⟩] false)
  (.seq (.region [
    ⟨some 7, .bslice false 1 [.string ⟨#[]⟩] 9 [(0, (.c (.string ⟨#[79, 75]⟩))), (1, (.c (.string ⟨#[69, 114, 114, 82, 97, 110, 103, 101]⟩))), (2, (.c (.string ⟨#[69, 114, 114, 83, 121, 110, 116, 97, 120]⟩))), (3, (.c (.string ⟨#[69, 114, 114, 83, 104, 97, 112, 101]⟩))), (4, (.c (.string ⟨#[69, 114, 114, 70, 117, 108, 108]⟩))), (5, (.c (.string ⟨#[69, 114, 114, 78, 111, 110, 101]⟩))), (6, (.c (.string ⟨#[69, 114, 114, 83, 116, 97, 116, 101]⟩))), (7, (.c (.string ⟨#[69, 114, 114, 67, 108, 97, 115, 104]⟩))), (8, (.c (.string ⟨#[69, 114, 114, 67, 121, 99, 108, 101]⟩)))], none, []⟩,
    ⟨some 3, .mov (.t 7), none, []⟩] false)
  (.seq (.seq (.region [
    ⟨some 4, .mov (.c (.int .i64 0)), none, []⟩] false)
  (.block 0 (.loop (.seq (.seq (.region [
        ⟨some 8, .mov (.t 4), none, []⟩,
        ⟨some 9, .mov (.t 3), none, []⟩,
        ⟨some 10, .len false (.t 9), none, []⟩,
        ⟨some 11, .bin .int .lss (.t 8) (.t 10), none, []⟩] false)
      (.cond (.t 11)
        (.skip)
        (.exit 0)))
      (.seq (.block 1 (.seq (.region [
          ⟨some 14, .mov (.t 4), none, []⟩,
          ⟨some 5, .mov (.t 14), none, []⟩] false)
        (.seq (.region [
          ⟨some 15, .mov (.t 5), none, []⟩,
          ⟨some 16, .call false [] 7 [(.t 15)], none, []⟩,
          ⟨some 6, .mov (.t 16), none, []⟩] false)
        (.seq (.region [
          ⟨some 17, .mov (.t 6), none, []⟩,
          ⟨some 18, .mov (.t 3), none, []⟩,
          ⟨some 19, .mov (.t 4), none, []⟩,
          ⟨some 20, .ia 1 (.t 18) (.t 19), none, []⟩,
          ⟨some 21, .load none (.t 20), none, []⟩,
          ⟨some 22, .bin .str .neq (.t 17) (.t 21), none, []⟩] false)
        (.cond (.t 22)
          (.seq (.region [
            ⟨some 0, .mov (.c (.bool false)), none, []⟩] false)
          (.ret))
          (.skip))))))
      (.region [
        ⟨some 12, .mov (.t 4), none, []⟩,
        ⟨some 13, .bin .int .add (.t 12) (.c (.int .i64 1)), none, []⟩,
        ⟨some 4, .mov (.t 13), none, []⟩] false))))))
  (.seq (.region [
    ⟨some 23, .mov (.t 1), none, []⟩,
    ⟨some 24, .mov (.t 23), none, []⟩,
    ⟨some 25, .mov (.t 2), (some (24, true)), []⟩,
    ⟨some 26, .pick (.t 24) (.t 25) (.c (.bool false)), none, []⟩,
    ⟨some 0, .mov (.t 26), none, []⟩] false)
  (.ret))))))
def f0 : AFunc := { np := 0, nt := 27, res := [.tmp 0], muts := [], own := false, body := b0 }

/- tallyhall/tallylaw4.CellCounts -/
def b1 : ACode :=
  .seq (.region [
    ⟨some 2, .mov (.c (.bool false)), none, []⟩] false)
  (.seq (.seq (.region [
    ⟨some 11, .mov (.t 0), none, []⟩,
    ⟨some 12, .bin .int .lss (.t 11) (.c (.int .i64 0)), none, []⟩,
    ⟨some 13, .mov (.t 12), none, []⟩,
    ⟨some 14, .mov (.t 0), (some (13, false)), []⟩,
    ⟨some 15, .bin .int .gtr (.t 14) (.c (.int .i64 50)), (some (13, false)), []⟩,
    ⟨some 16, .pick (.t 13) (.c (.bool true)) (.t 15), none, []⟩] false)
  (.cond (.t 16)
    (.seq (.region [
      ⟨some 2, .mov (.c (.bool true)), none, []⟩] false)
    (.ret))
    (.skip)))
  (.seq (.region [
    ⟨some 17, .build [.int .i64 0, .int .i64 0] [], none, []⟩,
    ⟨some 3, .alloc [.int .i64 0, .int .i64 0], none, []⟩,
    ⟨none, .store 2 (.t 3) (.t 17), none, []⟩] false)
  (.seq (.region [
    ⟨some 18, .call false [] 8 [(.c (.int .i64 1))], none, []⟩,
    ⟨some 4, .alloc [.int .i64 0, .int .i64 0], none, []⟩,
    ⟨none, .store 2 (.t 4) (.t 18), none, []⟩] false)
  (.seq (.region [
    ⟨some 5, .mov (.c (.int .i64 1)), none, []⟩] false)
  (.seq (.seq (.region [
    ⟨some 6, .mov (.c (.int .i64 0)), none, []⟩] false)
  (.block 0 (.loop (.seq (.seq (.region [
        ⟨some 19, .mov (.t 6), none, []⟩,
        ⟨some 20, .mov (.t 0), none, []⟩,
        ⟨some 21, .bin .int .lss (.t 19) (.t 20), none, []⟩] false)
      (.cond (.t 21)
        (.skip)
        (.exit 0)))
      (.seq (.block 1 (.seq (.region [
          ⟨some 25, .load (some 2) (.t 3), none, []⟩,
          ⟨some 26, .call false [] 8 [(.c (.int .i64 1))], none, []⟩,
          ⟨some 27, .call false [] 9 [(.t 25), (.t 26)], none, [0, 1, 1]⟩,
          ⟨some 24, .mov (.t 27), none, [2]⟩,
          ⟨some 28, .ext (.t 24) 0, none, [3]⟩,
          ⟨some 29, .ext (.t 24) 1, none, [3]⟩,
          ⟨some 7, .alloc [.int .i64 0, .int .i64 0], none, []⟩,
          ⟨none, .store 2 (.t 7) (.t 28), none, [6, 4, 2, 0, 1, 2, 3, 4, 6]⟩,
          ⟨some 8, .mov (.t 29), none, [5, 7, 0, 1, 2, 3, 4, 5, 6, 7]⟩] true)
        (.seq (.region [
          ⟨some 31, .load (some 2) (.t 4), none, []⟩,
          ⟨some 32, .call false [] 8 [(.c (.int .i64 2))], none, []⟩,
          ⟨some 33, .call false [] 10 [(.t 31), (.t 32)], none, [0, 1, 1]⟩,
          ⟨some 30, .mov (.t 33), none, [2]⟩,
          ⟨some 34, .ext (.t 30) 0, none, [3]⟩,
          ⟨some 35, .ext (.t 30) 1, none, [3]⟩,
          ⟨some 9, .alloc [.int .i64 0, .int .i64 0], none, []⟩,
          ⟨none, .store 2 (.t 9) (.t 34), none, [6, 4, 2, 0, 1, 2, 3, 4, 6]⟩,
          ⟨some 10, .mov (.t 35), none, [5, 7, 0, 1, 2, 3, 4, 5, 6, 7]⟩] true)
        (.seq (.seq (.region [
          ⟨some 36, .mov (.t 8), none, []⟩,
          ⟨some 37, .eqn false true (.t 36), none, []⟩,
          ⟨some 38, .mov (.t 37), none, []⟩,
          ⟨some 39, .mov (.t 10), (some (38, false)), []⟩,
          ⟨some 40, .eqn false true (.t 39), (some (38, false)), []⟩,
          ⟨some 41, .pick (.t 38) (.c (.bool true)) (.t 40), none, []⟩] false)
        (.cond (.t 41)
          (.seq (.region [
            ⟨some 2, .mov (.c (.bool false)), none, []⟩] false)
          (.ret))
          (.skip)))
        (.seq (.region [
          ⟨some 42, .load (some 2) (.t 7), none, []⟩,
          ⟨none, .store 2 (.t 3) (.t 42), none, []⟩] false)
        (.seq (.region [
          ⟨some 43, .load (some 2) (.t 9), none, []⟩,
          ⟨none, .store 2 (.t 4) (.t 43), none, []⟩] false)
        (.seq (.region [
          ⟨some 44, .mov (.t 5), none, []⟩,
          ⟨some 45, .bin .int .leq (.t 44) (.c (.int .i64 1000000000000)), none, []⟩] false)
        (.cond (.t 45)
          (.region [
            ⟨some 46, .mov (.t 5), none, []⟩,
            ⟨some 47, .bin .int .mul (.c (.int .i64 2)) (.t 46), none, []⟩,
            ⟨some 5, .mov (.t 47), none, []⟩] false)
          (.skip)))))))))
      (.region [
        ⟨some 22, .mov (.t 6), none, []⟩,
        ⟨some 23, .bin .int .add (.t 22) (.c (.int .i64 1)), none, []⟩,
        ⟨some 6, .mov (.t 23), none, []⟩] false))))))
  (.seq (.seq (.region [
    ⟨some 48, .mov (.t 0), none, []⟩,
    ⟨some 49, .bin .int .eql (.t 48) (.c (.int .i64 0)), none, []⟩] false)
  (.cond (.t 49)
    (.seq (.region [
      ⟨some 50, .fa 0 (.t 3), none, []⟩,
      ⟨some 51, .load none (.t 50), none, [0]⟩,
      ⟨some 52, .bin .int .eql (.t 51) (.c (.int .i64 0)), none, [1]⟩,
      ⟨some 53, .mov (.t 52), none, [2]⟩,
      ⟨some 54, .load (some 2) (.t 4), (some (53, true)), [3]⟩,
      ⟨some 55, .call false [] 8 [(.c (.int .i64 1))], (some (53, true)), [3, 3]⟩,
      ⟨some 56, .eqa false [(0, .int), (1, .int)] (.t 54) (.t 55), (some (53, true)), [4, 5, 3]⟩,
      ⟨some 57, .pick (.t 53) (.t 56) (.c (.bool false)), none, [3, 6]⟩,
      ⟨some 2, .mov (.t 57), none, [7, 5, 0, 1, 2, 3, 4, 5, 6, 7]⟩] true)
    (.ret))
    (.skip)))
  (.seq (.region [
    ⟨some 58, .load (some 2) (.t 3), none, []⟩,
    ⟨some 59, .mov (.t 0), none, []⟩,
    ⟨some 60, .call false [] 8 [(.t 59)], none, [1]⟩,
    ⟨some 61, .eqa false [(0, .int), (1, .int)] (.t 58) (.t 60), none, [0, 2]⟩,
    ⟨some 62, .mov (.t 61), none, [3, 2]⟩,
    ⟨some 63, .mov (.t 5), (some (62, true)), [4]⟩,
    ⟨some 64, .bin .int .leq (.t 63) (.c (.int .i64 1000000000000)), (some (62, true)), [5, 4]⟩,
    ⟨some 65, .fa 0 (.t 4), (some (62, true)), [4]⟩,
    ⟨some 66, .load none (.t 65), (some (62, true)), [7, 4]⟩,
    ⟨some 67, .bin .int .eql (.t 66) (.c (.int .i64 1)), (some (62, true)), [8, 4]⟩,
    ⟨some 68, .bin .bool .eql (.t 64) (.t 67), (some (62, true)), [6, 9, 4]⟩,
    ⟨some 69, .pick (.t 62) (.t 68) (.c (.bool false)), none, [4, 10]⟩,
    ⟨some 70, .mov (.t 69), none, [11, 4]⟩,
    ⟨some 71, .fa 0 (.t 4), (some (70, true)), [12]⟩,
    ⟨some 72, .load none (.t 71), (some (70, true)), [13, 12]⟩,
    ⟨some 73, .bin .int .neq (.t 72) (.c (.int .i64 1)), (some (70, true)), [14, 12]⟩,
    ⟨some 74, .mov (.t 73), (some (70, true)), [15, 12, 12]⟩,
    ⟨some 75, .fa 1 (.t 4), (some (74, false)), [16]⟩,
    ⟨some 76, .load none (.t 75), (some (74, false)), [17, 16]⟩,
    ⟨some 77, .mov (.t 5), (some (74, false)), [16]⟩,
    ⟨some 78, .bin .int .eql (.t 76) (.t 77), (some (74, false)), [18, 19, 16]⟩,
    ⟨some 79, .pick (.t 74) (.c (.bool true)) (.t 78), (some (70, true)), [16, 20, 12]⟩,
    ⟨some 80, .pick (.t 70) (.t 79) (.c (.bool false)), none, [12, 21]⟩,
    ⟨some 2, .mov (.t 80), none, [22, 16, 0, 1, 2, 3, 4, 5, 6, 7, 8, 9, 10, 11, 12, 13, 14, 15, 16, 17, 18, 19, 20, 21, 22]⟩] true)
  (.ret))))))))
def f1 : AFunc := { np := 1, nt := 81, res := [.tmp 2], muts := [], own := false, body := b1 }

/- tallyhall/tallylaw4.CellDivides -/
def b2 : ACode :=
  .seq (.region [
    ⟨some 4, .mov (.c (.bool false)), none, []⟩] false)
  (.seq (.seq (.region [
    ⟨some 13, .mov (.t 0), none, []⟩,
    ⟨some 14, .bin .int .lss (.t 13) (.c (.int .i64 (-1000000))), none, []⟩,
    ⟨some 15, .mov (.t 14), none, []⟩,
    ⟨some 16, .mov (.t 0), (some (15, false)), []⟩,
    ⟨some 17, .bin .int .gtr (.t 16) (.c (.int .i64 1000000)), (some (15, false)), []⟩,
    ⟨some 18, .pick (.t 15) (.c (.bool true)) (.t 17), none, []⟩,
    ⟨some 19, .mov (.t 18), none, []⟩,
    ⟨some 20, .mov (.t 1), (some (19, false)), []⟩,
    ⟨some 21, .bin .int .lss (.t 20) (.c (.int .i64 (-1000000))), (some (19, false)), []⟩,
    ⟨some 22, .pick (.t 19) (.c (.bool true)) (.t 21), none, []⟩,
    ⟨some 23, .mov (.t 22), none, []⟩,
    ⟨some 24, .mov (.t 1), (some (23, false)), []⟩,
    ⟨some 25, .bin .int .gtr (.t 24) (.c (.int .i64 1000000)), (some (23, false)), []⟩,
    ⟨some 26, .pick (.t 23) (.c (.bool true)) (.t 25), none, []⟩] false)
  (.cond (.t 26)
    (.seq (.region [
      ⟨some 4, .mov (.c (.bool true)), none, []⟩] false)
    (.ret))
    (.skip)))
  (.seq (.region [
    ⟨some 28, .mov (.t 0), none, []⟩,
    ⟨some 29, .call false [] 8 [(.t 28)], none, []⟩,
    ⟨some 30, .mov (.t 1), none, []⟩,
    ⟨some 31, .call false [] 8 [(.t 30)], none, []⟩,
    ⟨some 32, .call false [] 11 [(.t 29), (.t 31)], none, []⟩,
    ⟨some 27, .mov (.t 32), none, []⟩,
    ⟨some 33, .ext (.t 27) 0, none, []⟩,
    ⟨some 34, .ext (.t 27) 1, none, []⟩,
    ⟨some 5, .alloc [.int .i64 0, .int .i64 0], none, []⟩,
    ⟨none, .store 2 (.t 5) (.t 33), none, []⟩,
    ⟨some 6, .mov (.t 34), none, []⟩] false)
  (.seq (.seq (.region [
    ⟨some 35, .mov (.t 6), none, []⟩,
    ⟨some 36, .eqn false true (.t 35), none, []⟩] false)
  (.cond (.t 36)
    (.seq (.region [
      ⟨some 4, .mov (.c (.bool false)), none, []⟩] false)
    (.ret))
    (.skip)))
  (.seq (.seq (.region [
    ⟨some 37, .mov (.t 1), none, []⟩,
    ⟨some 38, .bin .int .eql (.t 37) (.c (.int .i64 0)), none, []⟩] false)
  (.cond (.t 38)
    (.seq (.region [
      ⟨some 39, .fa 0 (.t 5), none, []⟩,
      ⟨some 40, .load none (.t 39), none, []⟩,
      ⟨some 41, .bin .int .eql (.t 40) (.c (.int .i64 2)), none, []⟩,
      ⟨some 4, .mov (.t 41), none, []⟩] false)
    (.ret))
    (.skip)))
  (.seq (.region [
    ⟨some 43, .load (some 2) (.t 5), none, []⟩,
    ⟨some 44, .mov (.t 1), none, []⟩,
    ⟨some 45, .call false [] 8 [(.t 44)], none, [1]⟩,
    ⟨some 46, .call false [] 10 [(.t 43), (.t 45)], none, [0, 2, 2]⟩,
    ⟨some 42, .mov (.t 46), none, [3]⟩,
    ⟨some 47, .ext (.t 42) 0, none, [4]⟩,
    ⟨some 48, .ext (.t 42) 1, none, [4]⟩,
    ⟨some 7, .alloc [.int .i64 0, .int .i64 0], none, []⟩,
    ⟨none, .store 2 (.t 7) (.t 47), none, [7, 5, 3, 0, 1, 2, 3, 4, 5, 7]⟩,
    ⟨some 8, .mov (.t 48), none, [6, 8, 0, 1, 2, 3, 4, 5, 6, 7, 8]⟩] true)
  (.seq (.region [
    ⟨some 50, .mov (.t 0), none, []⟩,
    ⟨some 51, .call false [] 8 [(.t 50)], none, [0]⟩,
    ⟨some 52, .load (some 2) (.t 7), none, []⟩,
    ⟨some 53, .call false [] 12 [(.t 51), (.t 52)], none, [1, 2, 1]⟩,
    ⟨some 49, .mov (.t 53), none, [3]⟩,
    ⟨some 54, .ext (.t 49) 0, none, [4]⟩,
    ⟨some 55, .ext (.t 49) 1, none, [4]⟩,
    ⟨some 9, .alloc [.int .i64 0, .int .i64 0], none, []⟩,
    ⟨none, .store 2 (.t 9) (.t 54), none, [7, 5, 3, 0, 1, 2, 3, 4, 5, 7]⟩,
    ⟨some 10, .mov (.t 55), none, [6, 8, 0, 1, 2, 3, 4, 5, 6, 7, 8]⟩] true)
  (.seq (.seq (.region [
    ⟨some 56, .mov (.t 8), none, []⟩,
    ⟨some 57, .eqn false true (.t 56), none, []⟩,
    ⟨some 58, .mov (.t 57), none, []⟩,
    ⟨some 59, .mov (.t 10), (some (58, false)), []⟩,
    ⟨some 60, .eqn false true (.t 59), (some (58, false)), []⟩,
    ⟨some 61, .pick (.t 58) (.c (.bool true)) (.t 60), none, []⟩,
    ⟨some 62, .mov (.t 61), none, []⟩,
    ⟨some 63, .fa 0 (.t 9), (some (62, false)), []⟩,
    ⟨some 64, .load none (.t 63), (some (62, false)), []⟩,
    ⟨some 65, .bin .int .neq (.t 64) (.c (.int .i64 1)), (some (62, false)), []⟩,
    ⟨some 66, .pick (.t 62) (.c (.bool true)) (.t 65), none, []⟩] false)
  (.cond (.t 66)
    (.seq (.region [
      ⟨some 4, .mov (.c (.bool false)), none, []⟩] false)
    (.ret))
    (.skip)))
  (.seq (.region [
    ⟨some 67, .fa 1 (.t 9), none, []⟩,
    ⟨some 68, .load none (.t 67), none, []⟩,
    ⟨some 11, .mov (.t 68), none, []⟩] false)
  (.seq (.region [
    ⟨some 69, .mov (.t 1), none, []⟩,
    ⟨some 12, .mov (.t 69), none, []⟩] false)
  (.seq (.seq (.region [
    ⟨some 70, .mov (.t 12), none, []⟩,
    ⟨some 71, .bin .int .lss (.t 70) (.c (.int .i64 0)), none, []⟩] false)
  (.cond (.t 71)
    (.region [
      ⟨some 72, .mov (.t 12), none, []⟩,
      ⟨some 73, .un .neg (.t 72), none, []⟩,
      ⟨some 12, .mov (.t 73), none, []⟩] false)
    (.skip)))
  (.seq (.region [
    ⟨some 74, .mov (.t 11), none, []⟩,
    ⟨some 75, .mov (.t 12), none, []⟩,
    ⟨some 76, .un .neg (.t 75), none, []⟩,
    ⟨some 77, .bin .int .gtr (.t 74) (.t 76), none, []⟩,
    ⟨some 78, .mov (.t 77), none, []⟩,
    ⟨some 79, .mov (.t 11), (some (78, true)), []⟩,
    ⟨some 80, .mov (.t 12), (some (78, true)), []⟩,
    ⟨some 81, .bin .int .lss (.t 79) (.t 80), (some (78, true)), []⟩,
    ⟨some 82, .pick (.t 78) (.t 81) (.c (.bool false)), none, []⟩,
    ⟨some 83, .mov (.t 82), none, []⟩,
    ⟨some 84, .mov (.t 0), (some (83, true)), []⟩,
    ⟨some 85, .bin .int .geq (.t 84) (.c (.int .i64 0)), (some (83, true)), []⟩,
    ⟨some 86, .mov (.t 85), (some (83, true)), []⟩,
    ⟨some 87, .mov (.t 11), (some (86, false)), []⟩,
    ⟨some 88, .bin .int .leq (.t 87) (.c (.int .i64 0)), (some (86, false)), []⟩,
    ⟨some 89, .pick (.t 86) (.c (.bool true)) (.t 88), (some (83, true)), []⟩,
    ⟨some 90, .pick (.t 83) (.t 89) (.c (.bool false)), none, []⟩,
    ⟨some 91, .mov (.t 90), none, []⟩,
    ⟨some 92, .mov (.t 0), (some (91, true)), []⟩,
    ⟨some 93, .bin .int .leq (.t 92) (.c (.int .i64 0)), (some (91, true)), []⟩,
    ⟨some 94, .mov (.t 93), (some (91, true)), []⟩,
    ⟨some 95, .mov (.t 11), (some (94, false)), []⟩,
    ⟨some 96, .bin .int .geq (.t 95) (.c (.int .i64 0)), (some (94, false)), []⟩,
    ⟨some 97, .pick (.t 94) (.c (.bool true)) (.t 96), (some (91, true)), []⟩,
    ⟨some 98, .pick (.t 91) (.t 97) (.c (.bool false)), none, []⟩,
    ⟨some 4, .mov (.t 98), none, []⟩] false)
  (.ret))))))))))))
def f2 : AFunc := { np := 2, nt := 99, res := [.tmp 4], muts := [], own := false, body := b2 }

/- tallyhall/tallylaw1.OutlineFinds -/
def b3 : ACode :=
  .seq (.region [
    ⟨some 1, .box (.t 0), none, []⟩,
    ⟨some 2, .mov (.c (.bool false)), none, []⟩] false)
  (.seq (.region [
    ⟨some 15, .build [.string ⟨#[]⟩, .int .i64 0, .int .i64 0, .string ⟨#[]⟩] [(0, 1, (.c (.string ⟨#[98]⟩))), (1, 1, (.c (.int .i64 (-1))))], none, []⟩,
    ⟨some 16, .build [.string ⟨#[]⟩, .int .i64 0, .int .i64 0, .string ⟨#[]⟩] [(0, 1, (.c (.string ⟨#[99]⟩))), (1, 1, (.c (.int .i64 0)))], none, []⟩,
    ⟨some 17, .bslice false 4 [.string ⟨#[]⟩, .int .i64 0, .int .i64 0, .string ⟨#[]⟩] 2 [(0, (.t 15)), (1, (.t 16))], none, []⟩,
    ⟨some 18, .build [.string ⟨#[]⟩, .int .i64 0, .slice none 0 0] [(0, 1, (.c (.string ⟨#[97]⟩))), (2, 1, (.t 17))], none, []⟩,
    ⟨some 3, .alloc [.string ⟨#[]⟩, .int .i64 0, .slice none 0 0], none, []⟩,
    ⟨none, .store 3 (.t 3) (.t 18), none, []⟩] false)
  (.seq (.region [
    ⟨some 20, .load (some 3) (.t 3), none, []⟩,
    ⟨some 21, .call false [] 13 [(.t 20), (.c (.string ⟨#[99]⟩))], none, []⟩,
    ⟨some 19, .mov (.t 21), none, []⟩,
    ⟨some 22, .ext (.t 19) 0, none, []⟩,
    ⟨some 23, .ext (.t 19) 1, none, []⟩,
    ⟨some 4, .mov (.t 22), none, []⟩,
    ⟨some 5, .mov (.t 23), none, []⟩] false)
  (.seq (.seq (.region [
    ⟨some 24, .mov (.t 5), none, []⟩,
    ⟨some 25, .eqn false true (.t 24), none, []⟩,
    ⟨some 26, .mov (.t 25), none, []⟩,
    ⟨some 27, .mov (.t 4), (some (26, false)), []⟩,
    ⟨some 28, .bin .int .neq (.t 27) (.c (.int .i64 1)), (some (26, false)), []⟩,
    ⟨some 29, .pick (.t 26) (.c (.bool true)) (.t 28), none, []⟩] false)
  (.cond (.t 29)
    (.seq (.region [
      ⟨some 2, .mov (.c (.bool false)), none, []⟩] false)
    (.ret))
    (.skip)))
  (.seq (.region [
    ⟨some 31, .load (some 1) (.t 1), none, []⟩,
    ⟨some 32, .call false [] 14 [(.t 31)], none, []⟩,
    ⟨some 30, .mov (.t 32), none, []⟩,
    ⟨some 33, .ext (.t 30) 0, none, []⟩,
    ⟨some 34, .ext (.t 30) 1, none, []⟩,
    ⟨some 35, .ext (.t 30) 2, none, []⟩,
    ⟨some 6, .mov (.t 33), none, []⟩,
    ⟨some 7, .mov (.t 34), none, []⟩,
    ⟨some 8, .mov (.t 35), none, []⟩] false)
  (.seq (.seq (.region [
    ⟨some 36, .mov (.t 8), none, []⟩,
    ⟨some 37, .eqn false true (.t 36), none, []⟩] false)
  (.cond (.t 37)
    (.seq (.region [
      ⟨some 2, .mov (.c (.bool true)), none, []⟩] false)
    (.ret))
    (.skip)))
  (.seq (.seq (.region [
    ⟨some 9, .mov (.c (.int .i64 0)), none, []⟩] false)
  (.block 0 (.loop (.seq (.seq (.region [
        ⟨some 38, .mov (.t 9), none, []⟩,
        ⟨some 39, .fa 0 (.t 1), none, []⟩,
        ⟨some 40, .load none (.t 39), none, []⟩,
        ⟨some 41, .len false (.t 40), none, []⟩,
        ⟨some 42, .bin .int .lss (.t 38) (.t 41), none, []⟩] false)
      (.cond (.t 42)
        (.skip)
        (.exit 0)))
      (.seq (.block 1 (.seq (.region [
          ⟨some 46, .fa 0 (.t 1), none, []⟩,
          ⟨some 47, .load none (.t 46), none, []⟩,
          ⟨some 48, .mov (.t 9), none, []⟩,
          ⟨some 49, .ia 3 (.t 47) (.t 48), none, []⟩,
          ⟨some 50, .load (some 3) (.t 49), none, []⟩,
          ⟨some 51, .call false [] 15 [(.t 50)], none, []⟩,
          ⟨some 45, .mov (.t 51), none, []⟩,
          ⟨some 52, .ext (.t 45) 0, none, []⟩,
          ⟨some 53, .ext (.t 45) 1, none, []⟩,
          ⟨some 10, .mov (.t 52), none, []⟩,
          ⟨some 11, .mov (.t 53), none, []⟩] false)
        (.seq (.seq (.region [
          ⟨some 54, .mov (.t 11), none, []⟩,
          ⟨some 55, .eqn false true (.t 54), none, []⟩,
          ⟨some 56, .mov (.t 55), none, []⟩,
          ⟨some 57, .mov (.t 10), (some (56, false)), []⟩,
          ⟨some 58, .bin .int .neq (.t 57) (.c (.int .i64 (-1))), (some (56, false)), []⟩,
          ⟨some 59, .pick (.t 56) (.c (.bool true)) (.t 58), none, []⟩] false)
        (.cond (.t 59)
          (.seq (.region [
            ⟨some 2, .mov (.c (.bool false)), none, []⟩] false)
          (.ret))
          (.skip)))
        (.seq (.region [
          ⟨some 12, .mov (.c (.int .i64 0)), none, []⟩] false)
        (.block 2 (.loop (.seq (.seq (.region [
              ⟨some 60, .mov (.t 12), none, []⟩,
              ⟨some 61, .fa 0 (.t 1), none, []⟩,
              ⟨some 62, .load none (.t 61), none, []⟩,
              ⟨some 63, .mov (.t 9), none, []⟩,
              ⟨some 64, .ia 3 (.t 62) (.t 63), none, []⟩,
              ⟨some 65, .fa 2 (.t 64), none, []⟩,
              ⟨some 66, .load none (.t 65), none, []⟩,
              ⟨some 67, .len false (.t 66), none, []⟩,
              ⟨some 68, .bin .int .lss (.t 60) (.t 67), none, []⟩] false)
            (.cond (.t 68)
              (.skip)
              (.exit 2)))
            (.seq (.block 3 (.seq (.region [
                ⟨some 72, .fa 0 (.t 1), none, []⟩,
                ⟨some 73, .load none (.t 72), none, [0]⟩,
                ⟨some 74, .mov (.t 9), none, []⟩,
                ⟨some 75, .ia 3 (.t 73) (.t 74), none, [1, 2]⟩,
                ⟨some 76, .load (some 3) (.t 75), none, [3]⟩,
                ⟨some 77, .fa 0 (.t 1), none, []⟩,
                ⟨some 78, .load none (.t 77), none, [5]⟩,
                ⟨some 79, .mov (.t 9), none, []⟩,
                ⟨some 80, .ia 3 (.t 78) (.t 79), none, [6, 7]⟩,
                ⟨some 81, .fa 2 (.t 80), none, [8]⟩,
                ⟨some 82, .load none (.t 81), none, [9]⟩,
                ⟨some 83, .mov (.t 12), none, []⟩,
                ⟨some 84, .ia 4 (.t 82) (.t 83), none, [10, 11]⟩,
                ⟨some 85, .fa 0 (.t 84), none, [12]⟩,
                ⟨some 86, .load none (.t 85), none, [13]⟩,
                ⟨some 87, .call false [] 13 [(.t 76), (.t 86)], none, [4, 14]⟩,
                ⟨some 71, .mov (.t 87), none, [15]⟩,
                ⟨some 88, .ext (.t 71) 0, none, [16]⟩,
                ⟨some 89, .ext (.t 71) 1, none, [16]⟩,
                ⟨some 13, .mov (.t 88), none, [17, 15, 0, 1, 2, 3, 4, 5, 6, 7, 8, 9, 10, 11, 12, 13, 14, 15, 16, 17]⟩,
                ⟨some 14, .mov (.t 89), none, [18, 19, 0, 1, 2, 3, 4, 5, 6, 7, 8, 9, 10, 11, 12, 13, 14, 15, 16, 17, 18, 19]⟩] true)
              (.seq (.region [
                ⟨some 90, .mov (.t 14), none, []⟩,
                ⟨some 91, .eqn false true (.t 90), none, []⟩,
                ⟨some 92, .mov (.t 91), none, []⟩,
                ⟨some 93, .mov (.t 13), (some (92, false)), []⟩,
                ⟨some 94, .mov (.t 12), (some (92, false)), []⟩,
                ⟨some 95, .bin .int .neq (.t 93) (.t 94), (some (92, false)), []⟩,
                ⟨some 96, .pick (.t 92) (.c (.bool true)) (.t 95), none, []⟩] false)
              (.cond (.t 96)
                (.seq (.region [
                  ⟨some 2, .mov (.c (.bool false)), none, []⟩] false)
                (.ret))
                (.skip)))))
            (.region [
              ⟨some 69, .mov (.t 12), none, []⟩,
              ⟨some 70, .bin .int .add (.t 69) (.c (.int .i64 1)), none, []⟩,
              ⟨some 12, .mov (.t 70), none, []⟩] false)))))))))
      (.region [
        ⟨some 43, .mov (.t 9), none, []⟩,
        ⟨some 44, .bin .int .add (.t 43) (.c (.int .i64 1)), none, []⟩,
        ⟨some 9, .mov (.t 44), none, []⟩] false))))))
  (.seq (.region [
    ⟨some 2, .mov (.c (.bool true)), none, []⟩] false)
  (.ret))))))))
def f3 : AFunc := { np := 1, nt := 97, res := [.tmp 2], muts := [], own := false, body := b3 }

/- tallyhall/tallylaw1.TreeHolds -/
def b4 : ACode :=
  .seq (.region [
    ⟨some 2, .box (.t 0), none, []⟩,
    ⟨some 4, .mov (.c (.bool false)), none, []⟩] false)
  (.seq (.region [
    ⟨some 27, .build [.string ⟨#[]⟩, .int .i64 0, .int .i64 0, .string ⟨#[]⟩] [(0, 1, (.c (.string ⟨#[98]⟩))), (1, 1, (.c (.int .i64 (-1))))], none, []⟩,
    ⟨some 28, .build [.string ⟨#[]⟩, .int .i64 0, .int .i64 0, .string ⟨#[]⟩] [(0, 1, (.c (.string ⟨#[99]⟩))), (1, 1, (.c (.int .i64 0))), (2, 1, (.c (.int .i64 (-1))))], none, []⟩,
    ⟨some 29, .bslice false 4 [.string ⟨#[]⟩, .int .i64 0, .int .i64 0, .string ⟨#[]⟩] 2 [(0, (.t 27)), (1, (.t 28))], none, []⟩,
    ⟨some 30, .build [.string ⟨#[]⟩, .int .i64 0, .slice none 0 0] [(0, 1, (.c (.string ⟨#[97]⟩))), (2, 1, (.t 29))], none, []⟩,
    ⟨some 5, .alloc [.string ⟨#[]⟩, .int .i64 0, .slice none 0 0], none, []⟩,
    ⟨none, .store 3 (.t 5) (.t 30), none, []⟩] false)
  (.seq (.region [
    ⟨some 32, .load (some 3) (.t 5), none, []⟩,
    ⟨some 33, .call false [] 16 [(.t 32), (.c (.int .i64 0)), (.c (.int .i64 1))], none, []⟩,
    ⟨some 31, .mov (.t 33), none, []⟩,
    ⟨some 34, .ext (.t 31) 0, none, []⟩,
    ⟨some 35, .ext (.t 31) 1, none, []⟩,
    ⟨some 6, .mov (.t 34), none, []⟩,
    ⟨some 7, .mov (.t 35), none, []⟩] false)
  (.seq (.seq (.region [
    ⟨some 36, .mov (.t 7), none, []⟩,
    ⟨some 37, .eqn false true (.t 36), none, []⟩,
    ⟨some 38, .mov (.t 37), none, []⟩,
    ⟨some 39, .mov (.t 6), (some (38, false)), []⟩,
    ⟨some 40, .bin .int .neq (.t 39) (.c (.int .i64 (-1))), (some (38, false)), []⟩,
    ⟨some 41, .pick (.t 38) (.c (.bool true)) (.t 40), none, []⟩] false)
  (.cond (.t 41)
    (.seq (.region [
      ⟨some 4, .mov (.c (.bool false)), none, []⟩] false)
    (.ret))
    (.skip)))
  (.seq (.region [
    ⟨some 43, .load (some 3) (.t 2), none, []⟩,
    ⟨some 44, .mov (.t 1), none, []⟩,
    ⟨some 45, .call true [] 17 [(.t 43), (.t 44)], none, []⟩,
    ⟨some 42, .mov (.t 45), none, []⟩,
    ⟨some 46, .ext (.t 42) 0, none, []⟩,
    ⟨some 47, .ext (.t 42) 1, none, []⟩,
    ⟨some 8, .mov (.t 46), none, []⟩,
    ⟨some 9, .mov (.t 47), none, []⟩] false)
  (.seq (.seq (.region [
    ⟨some 48, .mov (.t 9), none, []⟩,
    ⟨some 49, .eqn false true (.t 48), none, []⟩] false)
  (.cond (.t 49)
    (.seq (.region [
      ⟨some 4, .mov (.c (.bool true)), none, []⟩] false)
    (.ret))
    (.skip)))
  (.seq (.region [
    ⟨some 51, .load (some 3) (.t 2), none, []⟩,
    ⟨some 52, .mov (.t 1), none, []⟩,
    ⟨some 53, .call true [] 18 [(.t 51), (.t 52)], none, []⟩,
    ⟨some 50, .mov (.t 53), none, []⟩,
    ⟨some 54, .ext (.t 50) 0, none, []⟩,
    ⟨some 55, .ext (.t 50) 1, none, []⟩,
    ⟨some 10, .mov (.t 54), none, []⟩,
    ⟨some 11, .mov (.t 55), none, []⟩] false)
  (.seq (.region [
    ⟨some 57, .load (some 3) (.t 2), none, []⟩,
    ⟨some 58, .mov (.t 1), none, []⟩,
    ⟨some 59, .call true [] 19 [(.t 57), (.t 58)], none, []⟩,
    ⟨some 56, .mov (.t 59), none, []⟩,
    ⟨some 60, .ext (.t 56) 0, none, []⟩,
    ⟨some 61, .ext (.t 56) 1, none, []⟩,
    ⟨some 12, .mov (.t 60), none, []⟩,
    ⟨some 13, .mov (.t 61), none, []⟩] false)
  (.seq (.region [
    ⟨some 63, .load (some 3) (.t 2), none, []⟩,
    ⟨some 64, .mov (.t 1), none, []⟩,
    ⟨some 65, .call false [] 20 [(.t 63), (.t 64)], none, []⟩,
    ⟨some 62, .mov (.t 65), none, []⟩,
    ⟨some 66, .ext (.t 62) 0, none, []⟩,
    ⟨some 67, .ext (.t 62) 1, none, []⟩,
    ⟨some 14, .mov (.t 66), none, []⟩,
    ⟨some 15, .mov (.t 67), none, []⟩] false)
  (.seq (.seq (.region [
    ⟨some 68, .mov (.t 11), none, []⟩,
    ⟨some 69, .eqn false true (.t 68), none, []⟩,
    ⟨some 70, .mov (.t 69), none, []⟩,
    ⟨some 71, .mov (.t 13), (some (70, false)), []⟩,
    ⟨some 72, .eqn false true (.t 71), (some (70, false)), []⟩,
    ⟨some 73, .pick (.t 70) (.c (.bool true)) (.t 72), none, []⟩,
    ⟨some 74, .mov (.t 73), none, []⟩,
    ⟨some 75, .mov (.t 15), (some (74, false)), []⟩,
    ⟨some 76, .eqn false true (.t 75), (some (74, false)), []⟩,
    ⟨some 77, .pick (.t 74) (.c (.bool true)) (.t 76), none, []⟩,
    ⟨some 78, .mov (.t 77), none, []⟩,
    ⟨some 79, .mov (.t 12), (some (78, false)), []⟩,
    ⟨some 80, .len false (.t 79), (some (78, false)), []⟩,
    ⟨some 81, .bin .int .eql (.t 80) (.c (.int .i64 0)), (some (78, false)), []⟩,
    ⟨some 82, .pick (.t 78) (.c (.bool true)) (.t 81), none, []⟩,
    ⟨some 83, .mov (.t 82), none, []⟩,
    ⟨some 84, .mov (.t 12), (some (83, false)), []⟩,
    ⟨some 85, .ia 1 (.t 84) (.c (.int .i64 0)), (some (83, false)), []⟩,
    ⟨some 86, .load none (.t 85), (some (83, false)), []⟩,
    ⟨some 87, .mov (.t 1), (some (83, false)), []⟩,
    ⟨some 88, .bin .int .neq (.t 86) (.t 87), (some (83, false)), []⟩,
    ⟨some 89, .pick (.t 83) (.c (.bool true)) (.t 88), none, []⟩,
    ⟨some 90, .mov (.t 89), none, []⟩,
    ⟨some 91, .mov (.t 1), (some (90, false)), []⟩,
    ⟨some 92, .bin .int .lss (.t 91) (.c (.int .i64 0)), (some (90, false)), []⟩,
    ⟨some 93, .pick (.t 90) (.c (.bool true)) (.t 92), none, []⟩,
    ⟨some 94, .mov (.t 93), none, []⟩,
    ⟨some 95, .mov (.t 1), (some (94, false)), []⟩,
    ⟨some 96, .fa 2 (.t 2), (some (94, false)), []⟩,
    ⟨some 97, .load none (.t 96), (some (94, false)), []⟩,
    ⟨some 98, .len false (.t 97), (some (94, false)), []⟩,
    ⟨some 99, .bin .int .geq (.t 95) (.t 98), (some (94, false)), []⟩,
    ⟨some 100, .pick (.t 94) (.c (.bool true)) (.t 99), none, []⟩] false)
  (.cond (.t 100)
    (.seq (.region [
      ⟨some 4, .mov (.c (.bool false)), none, []⟩] false)
    (.ret))
    (.skip)))
  (.seq (.seq (.region [
    ⟨some 101, .mov (.t 14), none, []⟩] false)
  (.cond (.t 101)
    (.seq (.region [
      ⟨some 102, .mov (.t 10), none, []⟩,
      ⟨some 103, .len false (.t 102), none, []⟩,
      ⟨some 104, .bin .int .eql (.t 103) (.c (.int .i64 0)), none, []⟩,
      ⟨some 105, .mov (.t 104), none, []⟩,
      ⟨some 106, .mov (.t 8), (some (105, true)), []⟩,
      ⟨some 107, .len false (.t 106), (some (105, true)), []⟩,
      ⟨some 108, .bin .int .eql (.t 107) (.c (.int .i64 1)), (some (105, true)), []⟩,
      ⟨some 109, .pick (.t 105) (.t 108) (.c (.bool false)), none, []⟩,
      ⟨some 110, .mov (.t 109), none, []⟩,
      ⟨some 111, .mov (.t 8), (some (110, true)), []⟩,
      ⟨some 112, .ia 1 (.t 111) (.c (.int .i64 0)), (some (110, true)), []⟩,
      ⟨some 113, .load none (.t 112), (some (110, true)), []⟩,
      ⟨some 114, .mov (.t 1), (some (110, true)), []⟩,
      ⟨some 115, .bin .int .eql (.t 113) (.t 114), (some (110, true)), []⟩,
      ⟨some 116, .pick (.t 110) (.t 115) (.c (.bool false)), none, []⟩,
      ⟨some 4, .mov (.t 116), none, []⟩] false)
    (.ret))
    (.skip)))
  (.seq (.region [
    ⟨some 16, .mov (.c (.int .i64 0)), none, []⟩] false)
  (.seq (.seq (.region [
    ⟨some 17, .mov (.c (.int .i64 0)), none, []⟩] false)
  (.block 0 (.loop (.seq (.seq (.region [
        ⟨some 117, .mov (.t 17), none, []⟩,
        ⟨some 118, .mov (.t 10), none, []⟩,
        ⟨some 119, .len false (.t 118), none, []⟩,
        ⟨some 120, .bin .int .lss (.t 117) (.t 119), none, []⟩] false)
      (.cond (.t 120)
        (.skip)
        (.exit 0)))
      (.seq (.block 1 (.seq (.region [
          ⟨some 124, .load (some 3) (.t 2), none, []⟩,
          ⟨some 125, .mov (.t 10), none, []⟩,
          ⟨some 126, .mov (.t 17), none, []⟩,
          ⟨some 127, .ia 1 (.t 125) (.t 126), none, [1, 2]⟩,
          ⟨some 128, .load none (.t 127), none, [3]⟩,
          ⟨some 129, .call true [] 19 [(.t 124), (.t 128)], none, [0, 4]⟩,
          ⟨some 123, .mov (.t 129), none, [5]⟩,
          ⟨some 130, .ext (.t 123) 0, none, [6]⟩,
          ⟨some 131, .ext (.t 123) 1, none, [6]⟩,
          ⟨some 18, .mov (.t 130), none, [7, 5, 0, 1, 2, 3, 4, 5, 6, 7]⟩,
          ⟨some 19, .mov (.t 131), none, [8, 9, 0, 1, 2, 3, 4, 5, 6, 7, 8, 9]⟩] true)
        (.seq (.region [
          ⟨some 133, .load (some 3) (.t 2), none, []⟩,
          ⟨some 134, .mov (.t 10), none, []⟩,
          ⟨some 135, .mov (.t 17), none, []⟩,
          ⟨some 136, .ia 1 (.t 134) (.t 135), none, [1, 2]⟩,
          ⟨some 137, .load none (.t 136), none, [3]⟩,
          ⟨some 138, .call true [] 17 [(.t 133), (.t 137)], none, [0, 4]⟩,
          ⟨some 132, .mov (.t 138), none, [5]⟩,
          ⟨some 139, .ext (.t 132) 0, none, [6]⟩,
          ⟨some 140, .ext (.t 132) 1, none, [6]⟩,
          ⟨some 20, .mov (.t 139), none, [7, 5, 0, 1, 2, 3, 4, 5, 6, 7]⟩,
          ⟨some 21, .mov (.t 140), none, [8, 9, 0, 1, 2, 3, 4, 5, 6, 7, 8, 9]⟩] true)
        (.seq (.seq (.region [
          ⟨some 141, .mov (.t 19), none, []⟩,
          ⟨some 142, .eqn false true (.t 141), none, [0]⟩,
          ⟨some 143, .mov (.t 142), none, [1]⟩,
          ⟨some 144, .mov (.t 21), (some (143, false)), [2]⟩,
          ⟨some 145, .eqn false true (.t 144), (some (143, false)), [3, 2]⟩,
          ⟨some 146, .pick (.t 143) (.c (.bool true)) (.t 145), none, [2, 4]⟩,
          ⟨some 147, .mov (.t 146), none, [5, 2]⟩,
          ⟨some 148, .mov (.t 18), (some (147, false)), [6]⟩,
          ⟨some 149, .len false (.t 148), (some (147, false)), [7, 6]⟩,
          ⟨some 150, .mov (.t 12), (some (147, false)), [6]⟩,
          ⟨some 151, .len false (.t 150), (some (147, false)), [9, 6]⟩,
          ⟨some 152, .bin .int .add (.t 151) (.c (.int .i64 1)), (some (147, false)), [10, 6]⟩,
          ⟨some 153, .bin .int .neq (.t 149) (.t 152), (some (147, false)), [8, 11, 6]⟩,
          ⟨some 154, .pick (.t 147) (.c (.bool true)) (.t 153), none, [6, 12]⟩,
          ⟨some 155, .mov (.t 154), none, [13, 6]⟩,
          ⟨some 156, .mov (.t 18), (some (155, false)), [14]⟩,
          ⟨some 157, .ia 1 (.t 156) (.c (.int .i64 1)), (some (155, false)), [15, 14]⟩,
          ⟨some 158, .load none (.t 157), (some (155, false)), [16, 14]⟩,
          ⟨some 159, .mov (.t 1), (some (155, false)), [14]⟩,
          ⟨some 160, .bin .int .neq (.t 158) (.t 159), (some (155, false)), [17, 18, 14]⟩,
          ⟨some 161, .pick (.t 155) (.c (.bool true)) (.t 160), none, [14, 19]⟩,
          ⟨some 162, .mov (.t 161), none, [20, 14]⟩,
          ⟨some 163, .mov (.t 10), (some (162, false)), [21]⟩,
          ⟨some 164, .mov (.t 17), (some (162, false)), [21]⟩,
          ⟨some 165, .ia 1 (.t 163) (.t 164), (some (162, false)), [22, 23, 21]⟩,
          ⟨some 166, .load none (.t 165), (some (162, false)), [24, 21]⟩,
          ⟨some 167, .fa 2 (.t 2), (some (162, false)), [21]⟩,
          ⟨some 168, .load none (.t 167), (some (162, false)), [26, 21]⟩,
          ⟨some 169, .len false (.t 168), (some (162, false)), [27, 21]⟩,
          ⟨some 170, .bin .int .geq (.t 166) (.t 169), (some (162, false)), [25, 28, 21]⟩,
          ⟨some 171, .pick (.t 162) (.c (.bool true)) (.t 170), none, [21, 29]⟩,
          ⟨some 172, .mov (.t 171), none, [30, 21]⟩,
          ⟨some 173, .mov (.t 10), (some (172, false)), [31]⟩,
          ⟨some 174, .mov (.t 17), (some (172, false)), [31]⟩,
          ⟨some 175, .ia 1 (.t 173) (.t 174), (some (172, false)), [32, 33, 31]⟩,
          ⟨some 176, .load none (.t 175), (some (172, false)), [34, 31]⟩,
          ⟨some 177, .bin .int .lss (.t 176) (.c (.int .i64 0)), (some (172, false)), [35, 31]⟩,
          ⟨some 178, .pick (.t 172) (.c (.bool true)) (.t 177), none, [31, 36]⟩] true)
        (.cond (.t 178)
          (.seq (.region [
            ⟨some 4, .mov (.c (.bool false)), none, []⟩] false)
          (.ret))
          (.skip)))
        (.seq (.region [
          ⟨some 179, .mov (.t 16), none, []⟩,
          ⟨some 180, .mov (.t 20), none, []⟩,
          ⟨some 181, .len false (.t 180), none, []⟩,
          ⟨some 182, .bin .int .add (.t 179) (.t 181), none, []⟩,
          ⟨some 16, .mov (.t 182), none, []⟩] false)
        (.seq (.region [
          ⟨some 22, .mov (.c (.int .i64 0)), none, []⟩] false)
        (.block 2 (.loop (.seq (.seq (.region [
              ⟨some 183, .mov (.t 22), none, []⟩,
              ⟨some 184, .mov (.t 20), none, []⟩,
              ⟨some 185, .len false (.t 184), none, []⟩,
              ⟨some 186, .bin .int .lss (.t 183) (.t 185), none, []⟩] false)
            (.cond (.t 186)
              (.skip)
              (.exit 2)))
            (.seq (.block 3 (.seq (.region [
                ⟨some 190, .load (some 3) (.t 2), none, []⟩,
                ⟨some 191, .mov (.t 1), none, []⟩,
                ⟨some 192, .mov (.t 20), none, []⟩,
                ⟨some 193, .mov (.t 22), none, []⟩,
                ⟨some 194, .ia 1 (.t 192) (.t 193), none, [2, 3]⟩,
                ⟨some 195, .load none (.t 194), none, [4]⟩,
                ⟨some 196, .call false [] 16 [(.t 190), (.t 191), (.t 195)], none, [0, 1, 5]⟩,
                ⟨some 189, .mov (.t 196), none, [6]⟩,
                ⟨some 197, .ext (.t 189) 0, none, [7]⟩,
                ⟨some 198, .ext (.t 189) 1, none, [7]⟩,
                ⟨some 23, .mov (.t 197), none, [8, 6, 0, 1, 2, 3, 4, 5, 6, 7, 8]⟩,
                ⟨some 24, .mov (.t 198), none, [9, 10, 0, 1, 2, 3, 4, 5, 6, 7, 8, 9, 10]⟩] true)
              (.seq (.region [
                ⟨some 200, .load (some 3) (.t 2), none, []⟩,
                ⟨some 201, .mov (.t 10), none, []⟩,
                ⟨some 202, .mov (.t 17), none, []⟩,
                ⟨some 203, .ia 1 (.t 201) (.t 202), none, [1, 2]⟩,
                ⟨some 204, .load none (.t 203), none, [3]⟩,
                ⟨some 205, .mov (.t 20), none, []⟩,
                ⟨some 206, .mov (.t 22), none, []⟩,
                ⟨some 207, .ia 1 (.t 205) (.t 206), none, [5, 6]⟩,
                ⟨some 208, .load none (.t 207), none, [7]⟩,
                ⟨some 209, .call false [] 16 [(.t 200), (.t 204), (.t 208)], none, [0, 4, 8]⟩,
                ⟨some 199, .mov (.t 209), none, [9]⟩,
                ⟨some 210, .ext (.t 199) 0, none, [10]⟩,
                ⟨some 211, .ext (.t 199) 1, none, [10]⟩,
                ⟨some 25, .mov (.t 210), none, [11, 9, 0, 1, 2, 3, 4, 5, 6, 7, 8, 9, 10, 11]⟩,
                ⟨some 26, .mov (.t 211), none, [12, 13, 0, 1, 2, 3, 4, 5, 6, 7, 8, 9, 10, 11, 12, 13]⟩] true)
              (.seq (.region [
                ⟨some 212, .mov (.t 24), none, []⟩,
                ⟨some 213, .eqn false true (.t 212), none, [0]⟩,
                ⟨some 214, .mov (.t 213), none, [1]⟩,
                ⟨some 215, .mov (.t 26), (some (214, false)), [2]⟩,
                ⟨some 216, .eqn false true (.t 215), (some (214, false)), [3, 2]⟩,
                ⟨some 217, .pick (.t 214) (.c (.bool true)) (.t 216), none, [2, 4]⟩,
                ⟨some 218, .mov (.t 217), none, [5, 2]⟩,
                ⟨some 219, .mov (.t 23), (some (218, false)), [6]⟩,
                ⟨some 220, .mov (.t 25), (some (218, false)), [6]⟩,
                ⟨some 221, .fa 2 (.t 2), (some (218, false)), [6]⟩,
                ⟨some 222, .load none (.t 221), (some (218, false)), [9, 6]⟩,
                ⟨some 223, .mov (.t 10), (some (218, false)), [6]⟩,
                ⟨some 224, .mov (.t 17), (some (218, false)), [6]⟩,
                ⟨some 225, .ia 1 (.t 223) (.t 224), (some (218, false)), [11, 12, 6]⟩,
                ⟨some 226, .load none (.t 225), (some (218, false)), [13, 6]⟩,
                ⟨some 227, .ia 4 (.t 222) (.t 226), (some (218, false)), [10, 14, 6]⟩,
                ⟨some 228, .fa 2 (.t 227), (some (218, false)), [15, 6]⟩,
                ⟨some 229, .load none (.t 228), (some (218, false)), [16, 6]⟩,
                ⟨some 230, .bin .int .mul (.t 220) (.t 229), (some (218, false)), [8, 17, 6]⟩,
                ⟨some 231, .bin .int .neq (.t 219) (.t 230), (some (218, false)), [7, 18, 6]⟩,
                ⟨some 232, .pick (.t 218) (.c (.bool true)) (.t 231), none, [6, 19]⟩] true)
              (.cond (.t 232)
                (.seq (.region [
                  ⟨some 4, .mov (.c (.bool false)), none, []⟩] false)
                (.ret))
                (.skip))))))
            (.region [
              ⟨some 187, .mov (.t 22), none, []⟩,
              ⟨some 188, .bin .int .add (.t 187) (.c (.int .i64 1)), none, []⟩,
              ⟨some 22, .mov (.t 188), none, []⟩] false)))))))))))
      (.region [
        ⟨some 121, .mov (.t 17), none, []⟩,
        ⟨some 122, .bin .int .add (.t 121) (.c (.int .i64 1)), none, []⟩,
        ⟨some 17, .mov (.t 122), none, []⟩] false))))))
  (.seq (.region [
    ⟨some 233, .mov (.t 16), none, []⟩,
    ⟨some 234, .mov (.t 8), none, []⟩,
    ⟨some 235, .len false (.t 234), none, []⟩,
    ⟨some 236, .bin .int .eql (.t 233) (.t 235), none, []⟩,
    ⟨some 4, .mov (.t 236), none, []⟩] false)
  (.ret))))))))))))))
def f4 : AFunc := { np := 2, nt := 237, res := [.tmp 4], muts := [], own := false, body := b4 }

/- tallyhall/tallylaw4.FoldOnce -/
def b5 : ACode :=
  .seq (.region [
    ⟨some 3, .box (.t 0), none, []⟩,
    ⟨some 6, .mov (.c (.bool false)), none, []⟩] false)
  (.seq (.region [
    ⟨some 15, .call true [] 22 [(.c (.int .i64 1))], none, []⟩,
    ⟨some 16, .bslice false 1 [.int .i64 0] 2 [(0, (.c (.int .i64 1))), (1, (.c (.int .i64 1)))], none, []⟩,
    ⟨some 17, .build [.slice none 0 0, .int .i64 0] [(0, 1, (.t 16)), (1, 1, (.c (.int .i64 7)))], none, []⟩,
    ⟨some 18, .bslice true 2 [.slice none 0 0, .int .i64 0] 1 [(0, (.t 17))], none, []⟩,
    ⟨some 19, .call true [] 21 [(.t 15), (.t 18)], none, []⟩,
    ⟨some 14, .mov (.t 19), none, []⟩,
    ⟨some 20, .ext (.t 14) 0, none, []⟩,
    ⟨some 21, .ext (.t 14) 1, none, []⟩,
    ⟨some 7, .mov (.t 20), none, []⟩,
    ⟨some 8, .mov (.t 21), none, []⟩] false)
  (.seq (.seq (.region [
    ⟨some 22, .mov (.t 8), none, []⟩,
    ⟨some 23, .eqn false true (.t 22), none, [0]⟩,
    ⟨some 24, .mov (.t 23), none, [1]⟩,
    ⟨some 25, .mov (.t 7), (some (24, false)), [2]⟩,
    ⟨some 26, .len false (.t 25), (some (24, false)), [3, 2]⟩,
    ⟨some 27, .bin .int .neq (.t 26) (.c (.int .i64 4)), (some (24, false)), [4, 2]⟩,
    ⟨some 28, .pick (.t 24) (.c (.bool true)) (.t 27), none, [2, 5]⟩,
    ⟨some 29, .mov (.t 28), none, [6, 2]⟩,
    ⟨some 30, .mov (.t 7), (some (29, false)), [7]⟩,
    ⟨some 31, .ia 2 (.t 30) (.c (.int .i64 3)), (some (29, false)), [8, 7]⟩,
    ⟨some 32, .load (some 2) (.t 31), (some (29, false)), [9, 7]⟩,
    ⟨some 33, .call false [] 8 [(.c (.int .i64 7))], (some (29, false)), [7, 7]⟩,
    ⟨some 34, .eqa true [(0, .int), (1, .int)] (.t 32) (.t 33), (some (29, false)), [10, 11, 7]⟩,
    ⟨some 35, .pick (.t 29) (.c (.bool true)) (.t 34), none, [7, 12]⟩] true)
  (.cond (.t 35)
    (.seq (.region [
      ⟨some 6, .mov (.c (.bool false)), none, []⟩] false)
    (.ret))
    (.skip)))
  (.seq (.region [
    ⟨some 37, .load (some 1) (.t 3), none, []⟩,
    ⟨some 38, .mov (.t 1), none, []⟩,
    ⟨some 39, .call true [] 21 [(.t 37), (.t 38)], none, []⟩,
    ⟨some 36, .mov (.t 39), none, []⟩,
    ⟨some 40, .ext (.t 36) 0, none, []⟩,
    ⟨some 41, .ext (.t 36) 1, none, []⟩,
    ⟨some 9, .mov (.t 40), none, []⟩,
    ⟨some 10, .mov (.t 41), none, []⟩] false)
  (.seq (.seq (.region [
    ⟨some 42, .mov (.t 10), none, []⟩,
    ⟨some 43, .eqn false true (.t 42), none, []⟩] false)
  (.cond (.t 43)
    (.seq (.region [
      ⟨some 6, .mov (.c (.bool true)), none, []⟩] false)
    (.ret))
    (.skip)))
  (.seq (.region [
    ⟨some 45, .load (some 1) (.t 3), none, []⟩,
    ⟨some 46, .mov (.t 9), none, []⟩,
    ⟨some 47, .mov (.t 2), none, []⟩,
    ⟨some 48, .call true [] 23 [(.t 45), (.t 46), (.t 47)], none, []⟩,
    ⟨some 44, .mov (.t 48), none, []⟩,
    ⟨some 49, .ext (.t 44) 0, none, []⟩,
    ⟨some 50, .ext (.t 44) 1, none, []⟩,
    ⟨some 11, .mov (.t 49), none, []⟩,
    ⟨some 10, .mov (.t 50), none, []⟩] false)
  (.seq (.seq (.region [
    ⟨some 51, .mov (.t 10), none, []⟩,
    ⟨some 52, .eqn false true (.t 51), none, []⟩] false)
  (.cond (.t 52)
    (.seq (.region [
      ⟨some 53, .mov (.t 2), none, []⟩,
      ⟨some 54, .bin .int .lss (.t 53) (.c (.int .i64 0)), none, []⟩,
      ⟨some 55, .mov (.t 54), none, []⟩,
      ⟨some 56, .mov (.t 2), (some (55, false)), []⟩,
      ⟨some 57, .fa 0 (.t 3), (some (55, false)), []⟩,
      ⟨some 58, .load none (.t 57), (some (55, false)), []⟩,
      ⟨some 59, .len false (.t 58), (some (55, false)), []⟩,
      ⟨some 60, .bin .int .geq (.t 56) (.t 59), (some (55, false)), []⟩,
      ⟨some 61, .pick (.t 55) (.c (.bool true)) (.t 60), none, []⟩,
      ⟨some 6, .mov (.t 61), none, []⟩] false)
    (.ret))
    (.skip)))
  (.seq (.region [
    ⟨some 63, .load (some 1) (.t 3), none, []⟩,
    ⟨some 64, .mov (.t 11), none, []⟩,
    ⟨some 65, .mov (.t 2), none, []⟩,
    ⟨some 66, .call true [] 23 [(.t 63), (.t 64), (.t 65)], none, []⟩,
    ⟨some 62, .mov (.t 66), none, []⟩,
    ⟨some 67, .ext (.t 62) 0, none, []⟩,
    ⟨some 68, .ext (.t 62) 1, none, []⟩,
    ⟨some 12, .mov (.t 67), none, []⟩,
    ⟨some 13, .mov (.t 68), none, []⟩] false)
  (.seq (.region [
    ⟨some 69, .mov (.t 13), none, []⟩,
    ⟨some 70, .eqn false false (.t 69), none, []⟩,
    ⟨some 71, .mov (.t 70), none, []⟩,
    ⟨some 72, .mov (.t 11), (some (71, true)), []⟩,
    ⟨some 73, .mov (.t 12), (some (71, true)), []⟩,
    ⟨some 74, .call false [] 24 [(.t 72), (.t 73)], (some (71, true)), []⟩,
    ⟨some 75, .pick (.t 71) (.t 74) (.c (.bool false)), none, []⟩,
    ⟨some 6, .mov (.t 75), none, []⟩] false)
  (.ret)))))))))
def f5 : AFunc := { np := 3, nt := 76, res := [.tmp 6], muts := [], own := false, body := b5 }

/- tallyhall/tallylaw1.InputStays -/
def b6 : ACode :=
  .seq (.region [
    ⟨some 5, .box (.t 0), none, []⟩,
    ⟨some 10, .mov (.c (.bool false)), none, []⟩] false)
  (.seq (.region [
    ⟨some 26, .build [.string ⟨#[]⟩, .int .i64 0, .int .i64 0, .string ⟨#[]⟩] [(0, 1, (.c (.string ⟨#[98]⟩))), (1, 1, (.c (.int .i64 (-1))))], none, []⟩,
    ⟨some 27, .bslice false 4 [.string ⟨#[]⟩, .int .i64 0, .int .i64 0, .string ⟨#[]⟩] 1 [(0, (.t 26))], none, []⟩,
    ⟨some 28, .build [.string ⟨#[]⟩, .int .i64 0, .slice none 0 0] [(0, 1, (.c (.string ⟨#[97]⟩))), (2, 1, (.t 27))], none, []⟩,
    ⟨some 29, .bslice true 3 [.string ⟨#[]⟩, .int .i64 0, .slice none 0 0] 1 [(0, (.t 28))], none, []⟩,
    ⟨some 30, .build [.slice none 0 0] [(0, 1, (.t 29))], none, []⟩,
    ⟨some 11, .alloc [.slice none 0 0], none, []⟩,
    ⟨none, .store 1 (.t 11) (.t 30), none, []⟩] false)
  (.seq (.region [
    ⟨some 32, .load (some 1) (.t 11), none, []⟩,
    ⟨some 33, .bslice false 1 [.int .i64 0] 1 [(0, (.c (.int .i64 0)))], none, []⟩,
    ⟨some 34, .call true [] 25 [(.t 32), (.c (.slice none 0 0)), (.t 33), (.c (.int .i64 7))], none, []⟩,
    ⟨some 31, .mov (.t 34), none, []⟩,
    ⟨some 35, .ext (.t 31) 0, none, []⟩,
    ⟨some 36, .ext (.t 31) 1, none, []⟩,
    ⟨some 12, .mov (.t 35), none, []⟩,
    ⟨some 13, .mov (.t 36), none, []⟩] false)
  (.seq (.seq (.region [
    ⟨some 37, .mov (.t 13), none, []⟩,
    ⟨some 38, .eqn false true (.t 37), none, []⟩,
    ⟨some 39, .mov (.t 38), none, []⟩,
    ⟨some 40, .mov (.t 12), (some (39, false)), []⟩,
    ⟨some 41, .len false (.t 40), (some (39, false)), []⟩,
    ⟨some 42, .bin .int .neq (.t 41) (.c (.int .i64 1)), (some (39, false)), []⟩,
    ⟨some 43, .pick (.t 39) (.c (.bool true)) (.t 42), none, []⟩,
    ⟨some 44, .mov (.t 43), none, []⟩,
    ⟨some 45, .mov (.t 12), (some (44, false)), []⟩,
    ⟨some 46, .ia 2 (.t 45) (.c (.int .i64 0)), (some (44, false)), []⟩,
    ⟨some 47, .fa 1 (.t 46), (some (44, false)), []⟩,
    ⟨some 48, .load none (.t 47), (some (44, false)), []⟩,
    ⟨some 49, .bin .int .neq (.t 48) (.c (.int .i64 7)), (some (44, false)), []⟩,
    ⟨some 50, .pick (.t 44) (.c (.bool true)) (.t 49), none, []⟩] false)
  (.cond (.t 50)
    (.seq (.region [
      ⟨some 10, .mov (.c (.bool false)), none, []⟩] false)
    (.ret))
    (.skip)))
  (.seq (.region [
    ⟨some 52, .load (some 1) (.t 5), none, []⟩,
    ⟨some 53, .mov (.t 1), none, []⟩,
    ⟨some 54, .mov (.t 2), none, []⟩,
    ⟨some 55, .mov (.t 3), none, []⟩,
    ⟨some 56, .call true [] 25 [(.t 52), (.t 53), (.t 54), (.t 55)], none, []⟩,
    ⟨some 51, .mov (.t 56), none, []⟩,
    ⟨some 57, .ext (.t 51) 0, none, []⟩,
    ⟨some 58, .ext (.t 51) 1, none, []⟩,
    ⟨some 14, .mov (.t 57), none, []⟩,
    ⟨some 15, .mov (.t 58), none, []⟩] false)
  (.seq (.seq (.region [
    ⟨some 59, .mov (.t 15), none, []⟩,
    ⟨some 60, .eqn false true (.t 59), none, []⟩] false)
  (.cond (.t 60)
    (.seq (.region [
      ⟨some 10, .mov (.c (.bool true)), none, []⟩] false)
    (.ret))
    (.skip)))
  (.seq (.region [
    ⟨some 62, .load (some 1) (.t 5), none, []⟩,
    ⟨some 63, .mov (.t 14), none, []⟩,
    ⟨some 64, .mov (.t 2), none, []⟩,
    ⟨some 65, .call false [] 26 [(.t 62), (.t 63), (.t 64)], none, []⟩,
    ⟨some 61, .mov (.t 65), none, []⟩,
    ⟨some 66, .ext (.t 61) 0, none, []⟩,
    ⟨some 67, .ext (.t 61) 1, none, []⟩,
    ⟨some 16, .alloc [.int .i64 0, .int .i64 0], none, []⟩,
    ⟨none, .store 2 (.t 16) (.t 66), none, []⟩,
    ⟨some 17, .mov (.t 67), none, []⟩] false)
  (.seq (.seq (.region [
    ⟨some 68, .mov (.t 17), none, []⟩,
    ⟨some 69, .eqn false true (.t 68), none, [0]⟩,
    ⟨some 70, .mov (.t 69), none, [1]⟩,
    ⟨some 71, .load (some 2) (.t 16), (some (70, false)), [2]⟩,
    ⟨some 72, .mov (.t 3), (some (70, false)), [2]⟩,
    ⟨some 73, .call false [] 8 [(.t 72)], (some (70, false)), [4, 2, 2]⟩,
    ⟨some 74, .eqa true [(0, .int), (1, .int)] (.t 71) (.t 73), (some (70, false)), [3, 5, 2]⟩,
    ⟨some 75, .pick (.t 70) (.c (.bool true)) (.t 74), none, [2, 6]⟩,
    ⟨some 76, .mov (.t 75), none, [7, 5]⟩,
    ⟨some 77, .load (some 1) (.t 5), (some (76, false)), [8]⟩,
    ⟨some 78, .mov (.t 14), (some (76, false)), [8]⟩,
    ⟨some 79, .call false [] 27 [(.t 77), (.t 78)], (some (76, false)), [9, 10, 8, 8]⟩,
    ⟨some 80, .eqn false true (.t 79), (some (76, false)), [11, 8]⟩,
    ⟨some 81, .pick (.t 76) (.c (.bool true)) (.t 80), none, [8, 12]⟩] true)
  (.cond (.t 81)
    (.seq (.region [
      ⟨some 10, .mov (.c (.bool false)), none, []⟩] false)
    (.ret))
    (.skip)))
  (.seq (.region [
    ⟨some 82, .mov (.t 2), none, []⟩,
    ⟨some 83, .mov (.t 4), none, []⟩,
    ⟨some 84, .call false [] 28 [(.t 82), (.t 83)], none, []⟩,
    ⟨some 18, .mov (.t 84), none, []⟩] false)
  (.seq (.region [
    ⟨some 86, .load (some 1) (.t 5), none, []⟩,
    ⟨some 87, .mov (.t 1), none, []⟩,
    ⟨some 88, .mov (.t 4), none, []⟩,
    ⟨some 89, .call false [] 26 [(.t 86), (.t 87), (.t 88)], none, []⟩,
    ⟨some 85, .mov (.t 89), none, []⟩,
    ⟨some 90, .ext (.t 85) 0, none, []⟩,
    ⟨some 91, .ext (.t 85) 1, none, []⟩,
    ⟨some 19, .alloc [.int .i64 0, .int .i64 0], none, []⟩,
    ⟨none, .store 2 (.t 19) (.t 90), none, []⟩,
    ⟨some 17, .mov (.t 91), none, []⟩] false)
  (.seq (.region [
    ⟨some 93, .load (some 1) (.t 5), none, []⟩,
    ⟨some 94, .mov (.t 14), none, []⟩,
    ⟨some 95, .mov (.t 4), none, []⟩,
    ⟨some 96, .call false [] 26 [(.t 93), (.t 94), (.t 95)], none, []⟩,
    ⟨some 92, .mov (.t 96), none, []⟩,
    ⟨some 97, .ext (.t 92) 0, none, []⟩,
    ⟨some 98, .ext (.t 92) 1, none, []⟩,
    ⟨some 20, .alloc [.int .i64 0, .int .i64 0], none, []⟩,
    ⟨none, .store 2 (.t 20) (.t 97), none, []⟩,
    ⟨some 21, .mov (.t 98), none, []⟩] false)
  (.seq (.seq (.region [
    ⟨some 99, .mov (.t 17), none, []⟩,
    ⟨some 100, .eqn false false (.t 99), none, [0]⟩,
    ⟨some 101, .mov (.t 21), none, []⟩,
    ⟨some 102, .eqn false false (.t 101), none, [2]⟩,
    ⟨some 103, .bin .bool .neq (.t 100) (.t 102), none, [1, 3]⟩,
    ⟨some 104, .mov (.t 103), none, [4]⟩,
    ⟨some 105, .mov (.t 18), (some (104, false)), [5]⟩,
    ⟨some 106, .un .not (.t 105), (some (104, false)), [6, 5]⟩,
    ⟨some 107, .mov (.t 106), (some (104, false)), [7, 5, 5]⟩,
    ⟨some 108, .load (some 2) (.t 19), (some (107, true)), [8]⟩,
    ⟨some 109, .load (some 2) (.t 20), (some (107, true)), [8]⟩,
    ⟨some 110, .eqa true [(0, .int), (1, .int)] (.t 108) (.t 109), (some (107, true)), [9, 10, 8]⟩,
    ⟨some 111, .pick (.t 107) (.t 110) (.c (.bool false)), (some (104, false)), [8, 11, 5]⟩,
    ⟨some 112, .pick (.t 104) (.c (.bool true)) (.t 111), none, [5, 12]⟩] true)
  (.cond (.t 112)
    (.seq (.region [
      ⟨some 10, .mov (.c (.bool false)), none, []⟩] false)
    (.ret))
    (.skip)))
  (.seq (.region [
    ⟨some 114, .load (some 1) (.t 5), none, []⟩,
    ⟨some 115, .mov (.t 14), none, []⟩,
    ⟨some 116, .mov (.t 2), none, []⟩,
    ⟨some 117, .call true [] 29 [(.t 114), (.t 115), (.t 116)], none, []⟩,
    ⟨some 113, .mov (.t 117), none, []⟩,
    ⟨some 118, .ext (.t 113) 0, none, []⟩,
    ⟨some 119, .ext (.t 113) 1, none, []⟩,
    ⟨some 22, .mov (.t 118), none, []⟩,
    ⟨some 23, .mov (.t 119), none, []⟩] false)
  (.seq (.region [
    ⟨some 121, .load (some 1) (.t 5), none, []⟩,
    ⟨some 122, .mov (.t 22), none, []⟩,
    ⟨some 123, .mov (.t 2), none, []⟩,
    ⟨some 124, .call false [] 26 [(.t 121), (.t 122), (.t 123)], none, []⟩,
    ⟨some 120, .mov (.t 124), none, []⟩,
    ⟨some 125, .ext (.t 120) 0, none, []⟩,
    ⟨some 126, .ext (.t 120) 1, none, []⟩,
    ⟨some 24, .alloc [.int .i64 0, .int .i64 0], none, []⟩,
    ⟨none, .store 2 (.t 24) (.t 125), none, []⟩,
    ⟨some 25, .mov (.t 126), none, []⟩] false)
  (.seq (.region [
    ⟨some 127, .mov (.t 23), none, []⟩,
    ⟨some 128, .eqn false false (.t 127), none, []⟩,
    ⟨some 129, .mov (.t 128), none, []⟩,
    ⟨some 130, .mov (.t 25), (some (129, true)), []⟩,
    ⟨some 131, .eqn false false (.t 130), (some (129, true)), []⟩,
    ⟨some 132, .pick (.t 129) (.t 131) (.c (.bool false)), none, []⟩,
    ⟨some 133, .mov (.t 132), none, []⟩,
    ⟨some 134, .fa 0 (.t 24), (some (133, true)), []⟩,
    ⟨some 135, .load none (.t 134), (some (133, true)), []⟩,
    ⟨some 136, .bin .int .eql (.t 135) (.c (.int .i64 0)), (some (133, true)), []⟩,
    ⟨some 137, .pick (.t 133) (.t 136) (.c (.bool false)), none, []⟩,
    ⟨some 138, .mov (.t 137), none, []⟩,
    ⟨some 139, .mov (.t 22), (some (138, true)), []⟩,
    ⟨some 140, .len false (.t 139), (some (138, true)), []⟩,
    ⟨some 141, .mov (.t 14), (some (138, true)), []⟩,
    ⟨some 142, .len false (.t 141), (some (138, true)), []⟩,
    ⟨some 143, .bin .int .sub (.t 142) (.c (.int .i64 1)), (some (138, true)), []⟩,
    ⟨some 144, .bin .int .eql (.t 140) (.t 143), (some (138, true)), []⟩,
    ⟨some 145, .pick (.t 138) (.t 144) (.c (.bool false)), none, []⟩,
    ⟨some 10, .mov (.t 145), none, []⟩] false)
  (.ret)))))))))))))))
def f6 : AFunc := { np := 5, nt := 146, res := [.tmp 10], muts := [], own := false, body := b6 }

/- (tallyhall/api.Errno).Error -/
def b7 : ACode :=
  .seq (.region [
    ⟨some 2, .mov (.c (.string ⟨#[]⟩)), none, []⟩] false)
  (.seq (.seq (.region [
    ⟨some 3, .mov (.t 0), none, []⟩] false)
  (.block 0 (.seq (.region [
      ⟨some 5, .bin .int .eql (.t 3) (.c (.int .i64 0)), none, []⟩,
      ⟨some 4, .mov (.t 5), none, []⟩] false)
    (.cond (.t 4)
      (.seq (.region [
        ⟨some 2, .mov (.c (.string ⟨#[79, 75]⟩)), none, []⟩] false)
      (.ret))
      (.seq (.region [
        ⟨some 7, .bin .int .eql (.t 3) (.c (.int .i64 1)), none, []⟩,
        ⟨some 6, .mov (.t 7), none, []⟩] false)
      (.cond (.t 6)
        (.seq (.region [
          ⟨some 2, .mov (.c (.string ⟨#[69, 114, 114, 82, 97, 110, 103, 101]⟩)), none, []⟩] false)
        (.ret))
        (.seq (.region [
          ⟨some 9, .bin .int .eql (.t 3) (.c (.int .i64 2)), none, []⟩,
          ⟨some 8, .mov (.t 9), none, []⟩] false)
        (.cond (.t 8)
          (.seq (.region [
            ⟨some 2, .mov (.c (.string ⟨#[69, 114, 114, 83, 121, 110, 116, 97, 120]⟩)), none, []⟩] false)
          (.ret))
          (.seq (.region [
            ⟨some 11, .bin .int .eql (.t 3) (.c (.int .i64 3)), none, []⟩,
            ⟨some 10, .mov (.t 11), none, []⟩] false)
          (.cond (.t 10)
            (.seq (.region [
              ⟨some 2, .mov (.c (.string ⟨#[69, 114, 114, 83, 104, 97, 112, 101]⟩)), none, []⟩] false)
            (.ret))
            (.seq (.region [
              ⟨some 13, .bin .int .eql (.t 3) (.c (.int .i64 4)), none, []⟩,
              ⟨some 12, .mov (.t 13), none, []⟩] false)
            (.cond (.t 12)
              (.seq (.region [
                ⟨some 2, .mov (.c (.string ⟨#[69, 114, 114, 70, 117, 108, 108]⟩)), none, []⟩] false)
              (.ret))
              (.seq (.region [
                ⟨some 15, .bin .int .eql (.t 3) (.c (.int .i64 5)), none, []⟩,
                ⟨some 14, .mov (.t 15), none, []⟩] false)
              (.cond (.t 14)
                (.seq (.region [
                  ⟨some 2, .mov (.c (.string ⟨#[69, 114, 114, 78, 111, 110, 101]⟩)), none, []⟩] false)
                (.ret))
                (.seq (.region [
                  ⟨some 17, .bin .int .eql (.t 3) (.c (.int .i64 6)), none, []⟩,
                  ⟨some 16, .mov (.t 17), none, []⟩] false)
                (.cond (.t 16)
                  (.seq (.region [
                    ⟨some 2, .mov (.c (.string ⟨#[69, 114, 114, 83, 116, 97, 116, 101]⟩)), none, []⟩] false)
                  (.ret))
                  (.seq (.region [
                    ⟨some 19, .bin .int .eql (.t 3) (.c (.int .i64 7)), none, []⟩,
                    ⟨some 18, .mov (.t 19), none, []⟩] false)
                  (.cond (.t 18)
                    (.seq (.region [
                      ⟨some 2, .mov (.c (.string ⟨#[69, 114, 114, 67, 108, 97, 115, 104]⟩)), none, []⟩] false)
                    (.ret))
                    (.seq (.region [
                      ⟨some 21, .bin .int .eql (.t 3) (.c (.int .i64 8)), none, []⟩,
                      ⟨some 20, .mov (.t 21), none, []⟩] false)
                    (.cond (.t 20)
                      (.seq (.region [
                        ⟨some 2, .mov (.c (.string ⟨#[69, 114, 114, 67, 121, 99, 108, 101]⟩)), none, []⟩] false)
                      (.ret))
                      (.skip)))))))))))))))))))))
  (.seq (.region [
    ⟨some 2, .mov (.c (.string ⟨#[69, 114, 114, 110, 111]⟩)), none, []⟩] false)
  (.ret)))
def f7 : AFunc := { np := 1, nt := 22, res := [.tmp 2], muts := [], own := false, body := b7 }

/- tallyhall/cell.Of -/
def b8 : ACode :=
  .seq (.region [
    ⟨some 2, .alloc [.int .i64 0, .int .i64 0], none, []⟩] false)
  (.seq (.seq (.region [
    ⟨some 3, .mov (.t 0), none, []⟩,
    ⟨some 4, .call false [] 30 [(.t 3)], none, []⟩,
    ⟨some 5, .un .not (.t 4), none, []⟩] false)
  (.cond (.t 5)
    (.seq (.region [
      ⟨some 6, .build [.int .i64 0, .int .i64 0] [(0, 1, (.c (.int .i64 2)))], none, []⟩,
      ⟨none, .store 2 (.t 2) (.t 6), none, []⟩] false)
    (.ret))
    (.skip)))
  (.seq (.region [
    ⟨some 7, .mov (.t 0), none, []⟩,
    ⟨some 8, .build [.int .i64 0, .int .i64 0] [(0, 1, (.c (.int .i64 1))), (1, 1, (.t 7))], none, []⟩,
    ⟨none, .store 2 (.t 2) (.t 8), none, []⟩] false)
  (.ret)))
def f8 : AFunc := { np := 1, nt := 9, res := [.cell 2 (some 2)], muts := [], own := false, body := b8 }

/- tallyhall/cell.Add -/
def b9 : ACode :=
  .seq (.region [
    ⟨some 2, .box (.t 0), none, []⟩,
    ⟨some 3, .box (.t 1), none, []⟩,
    ⟨some 4, .alloc [.int .i64 0, .int .i64 0], none, []⟩,
    ⟨some 5, .mov (.c (.nilIface)), none, []⟩] false)
  (.seq (.region [
    ⟨some 6, .load (some 2) (.t 2), none, []⟩,
    ⟨some 7, .load (some 2) (.t 3), none, []⟩,
    ⟨some 8, .call false [] 31 [(.t 6), (.t 7), (.f 32)], none, []⟩,
    ⟨some 9, .ext (.t 8) 0, none, []⟩,
    ⟨some 10, .ext (.t 8) 1, none, []⟩,
    ⟨none, .store 2 (.t 4) (.t 9), none, []⟩,
    ⟨some 5, .mov (.t 10), none, []⟩] false)
  (.ret))
def f9 : AFunc := { np := 2, nt := 11, res := [.cell 4 (some 2), .tmp 5], muts := [], own := false, body := b9 }

/- tallyhall/cell.Mul -/
def b10 : ACode :=
  .seq (.region [
    ⟨some 2, .box (.t 0), none, []⟩,
    ⟨some 3, .box (.t 1), none, []⟩,
    ⟨some 4, .alloc [.int .i64 0, .int .i64 0], none, []⟩,
    ⟨some 5, .mov (.c (.nilIface)), none, []⟩] false)
  (.seq (.region [
    ⟨some 6, .load (some 2) (.t 2), none, []⟩,
    ⟨some 7, .load (some 2) (.t 3), none, []⟩,
    ⟨some 8, .call false [] 31 [(.t 6), (.t 7), (.f 34)], none, []⟩,
    ⟨some 9, .ext (.t 8) 0, none, []⟩,
    ⟨some 10, .ext (.t 8) 1, none, []⟩,
    ⟨none, .store 2 (.t 4) (.t 9), none, []⟩,
    ⟨some 5, .mov (.t 10), none, []⟩] false)
  (.ret))
def f10 : AFunc := { np := 2, nt := 11, res := [.cell 4 (some 2), .tmp 5], muts := [], own := false, body := b10 }

/- tallyhall/cell.Div -/
def b11 : ACode :=
  .seq (.region [
    ⟨some 2, .box (.t 0), none, []⟩,
    ⟨some 3, .box (.t 1), none, []⟩,
    ⟨some 4, .alloc [.int .i64 0, .int .i64 0], none, []⟩,
    ⟨some 5, .mov (.c (.nilIface)), none, []⟩] false)
  (.seq (.region [
    ⟨some 6, .load (some 2) (.t 2), none, []⟩,
    ⟨some 7, .load (some 2) (.t 3), none, []⟩,
    ⟨some 8, .call false [] 31 [(.t 6), (.t 7), (.f 35)], none, []⟩,
    ⟨some 9, .ext (.t 8) 0, none, []⟩,
    ⟨some 10, .ext (.t 8) 1, none, []⟩,
    ⟨none, .store 2 (.t 4) (.t 9), none, []⟩,
    ⟨some 5, .mov (.t 10), none, []⟩] false)
  (.ret))
def f11 : AFunc := { np := 2, nt := 11, res := [.cell 4 (some 2), .tmp 5], muts := [], own := false, body := b11 }

/- tallyhall/cell.Sub -/
def b12 : ACode :=
  .seq (.region [
    ⟨some 2, .box (.t 0), none, []⟩,
    ⟨some 3, .box (.t 1), none, []⟩,
    ⟨some 4, .alloc [.int .i64 0, .int .i64 0], none, []⟩,
    ⟨some 5, .mov (.c (.nilIface)), none, []⟩] false)
  (.seq (.region [
    ⟨some 6, .load (some 2) (.t 2), none, []⟩,
    ⟨some 7, .load (some 2) (.t 3), none, []⟩,
    ⟨some 8, .call false [] 31 [(.t 6), (.t 7), (.f 36)], none, []⟩,
    ⟨some 9, .ext (.t 8) 0, none, []⟩,
    ⟨some 10, .ext (.t 8) 1, none, []⟩,
    ⟨none, .store 2 (.t 4) (.t 9), none, []⟩,
    ⟨some 5, .mov (.t 10), none, []⟩] false)
  (.ret))
def f12 : AFunc := { np := 2, nt := 11, res := [.cell 4 (some 2), .tmp 5], muts := [], own := false, body := b12 }

/- tallyhall/outline.Find -/
def b13 : ACode :=
  .seq (.region [
    ⟨some 2, .box (.t 0), none, []⟩,
    ⟨some 4, .mov (.c (.int .i64 0)), none, []⟩,
    ⟨some 5, .mov (.c (.nilIface)), none, []⟩] false)
  (.seq (.seq (.region [
    ⟨some 10, .load (some 3) (.t 2), none, []⟩,
    ⟨some 11, .call false [] 15 [(.t 10)], none, []⟩,
    ⟨some 9, .mov (.t 11), none, []⟩,
    ⟨some 12, .ext (.t 9) 0, none, []⟩,
    ⟨some 13, .ext (.t 9) 1, none, []⟩,
    ⟨some 6, .mov (.t 12), none, []⟩,
    ⟨some 7, .mov (.t 13), none, []⟩] false)
  (.seq (.region [
    ⟨some 14, .mov (.t 7), none, []⟩,
    ⟨some 15, .eqn false true (.t 14), none, []⟩] false)
  (.cond (.t 15)
    (.seq (.region [
      ⟨some 16, .mov (.t 7), none, []⟩,
      ⟨some 4, .mov (.c (.int .i64 0)), none, []⟩,
      ⟨some 5, .mov (.t 16), none, []⟩] false)
    (.ret))
    (.skip))))
  (.seq (.region [
    ⟨some 17, .fa 2 (.t 2), none, []⟩,
    ⟨some 18, .load none (.t 17), none, []⟩,
    ⟨some 19, .mov (.t 1), none, []⟩,
    ⟨some 20, .call false [] 37 [(.t 18), (.t 19)], none, []⟩,
    ⟨some 8, .mov (.t 20), none, []⟩] false)
  (.seq (.seq (.region [
    ⟨some 21, .mov (.t 8), none, []⟩,
    ⟨some 22, .bin .int .lss (.t 21) (.c (.int .i64 0)), none, []⟩] false)
  (.cond (.t 22)
    (.seq (.region [
      ⟨some 23, .ifc 1 (.c (.int .i64 5)), none, []⟩,
      ⟨some 4, .mov (.c (.int .i64 0)), none, []⟩,
      ⟨some 5, .mov (.t 23), none, []⟩] false)
    (.ret))
    (.skip)))
  (.seq (.region [
    ⟨some 24, .mov (.t 8), none, []⟩,
    ⟨some 4, .mov (.t 24), none, []⟩,
    ⟨some 5, .mov (.c (.nilIface)), none, []⟩] false)
  (.ret)))))
def f13 : AFunc := { np := 2, nt := 25, res := [.tmp 4, .tmp 5], muts := [], own := false, body := b13 }

/- tallyhall/outline.All -/
def b14 : ACode :=
  .seq (.region [
    ⟨some 1, .box (.t 0), none, []⟩,
    ⟨some 2, .mov (.c (.int .i64 0)), none, []⟩,
    ⟨some 3, .mov (.c (.int .i64 0)), none, []⟩,
    ⟨some 4, .mov (.c (.nilIface)), none, []⟩] false)
  (.seq (.block 0 (.seq (.region [
      ⟨some 10, .fa 0 (.t 1), none, []⟩,
      ⟨some 11, .load none (.t 10), none, []⟩,
      ⟨some 12, .len false (.t 11), none, []⟩,
      ⟨some 13, .bin .int .gtr (.t 12) (.c (.int .i64 4)), none, []⟩,
      ⟨some 9, .mov (.t 13), none, []⟩] false)
    (.cond (.t 9)
      (.seq (.region [
        ⟨some 14, .ifc 1 (.c (.int .i64 4)), none, []⟩,
        ⟨some 2, .mov (.c (.int .i64 (-1))), none, []⟩,
        ⟨some 3, .mov (.c (.int .i64 (-1))), none, []⟩,
        ⟨some 4, .mov (.t 14), none, []⟩] false)
      (.ret))
      (.seq (.region [
        ⟨some 16, .fa 0 (.t 1), none, []⟩,
        ⟨some 17, .load none (.t 16), none, []⟩,
        ⟨some 18, .len false (.t 17), none, []⟩,
        ⟨some 19, .bin .int .eql (.t 18) (.c (.int .i64 0)), none, []⟩,
        ⟨some 15, .mov (.t 19), none, []⟩] false)
      (.cond (.t 15)
        (.seq (.region [
          ⟨some 20, .ifc 1 (.c (.int .i64 5)), none, []⟩,
          ⟨some 2, .mov (.c (.int .i64 (-1))), none, []⟩,
          ⟨some 3, .mov (.c (.int .i64 (-1))), none, []⟩,
          ⟨some 4, .mov (.t 20), none, []⟩] false)
        (.ret))
        (.skip))))))
  (.seq (.seq (.region [
    ⟨some 21, .fa 0 (.t 1), none, []⟩,
    ⟨some 22, .load none (.t 21), none, []⟩,
    ⟨some 23, .len false (.t 22), none, []⟩,
    ⟨some 24, .mov (.c (.int .i64 0)), none, []⟩] false)
  (.block 1 (.loop (.seq (.region [
        ⟨some 25, .bin .int .lss (.t 24) (.t 23), none, []⟩] false)
      (.seq (.cond (.t 25)
        (.skip)
        (.exit 1))
      (.seq (.block 2 (.seq (.region [
          ⟨some 26, .mov (.t 24), none, []⟩,
          ⟨some 27, .ia 3 (.t 22) (.t 24), none, []⟩,
          ⟨some 28, .load (some 3) (.t 27), none, []⟩,
          ⟨some 6, .alloc [.string ⟨#[]⟩, .int .i64 0, .slice none 0 0], none, []⟩,
          ⟨some 5, .mov (.t 26), none, []⟩,
          ⟨none, .store 3 (.t 6) (.t 28), none, []⟩] false)
        (.seq (.region [
          ⟨some 30, .load (some 3) (.t 6), none, []⟩,
          ⟨some 31, .call false [] 15 [(.t 30)], none, []⟩,
          ⟨some 29, .mov (.t 31), none, []⟩,
          ⟨some 32, .ext (.t 29) 0, none, []⟩,
          ⟨some 33, .ext (.t 29) 1, none, []⟩,
          ⟨some 7, .mov (.t 32), none, []⟩,
          ⟨some 8, .mov (.t 33), none, []⟩] false)
        (.seq (.seq (.region [
          ⟨some 34, .mov (.t 8), none, []⟩,
          ⟨some 35, .eqn false false (.t 34), none, []⟩,
          ⟨some 36, .mov (.t 35), none, []⟩,
          ⟨some 37, .fa 0 (.t 1), (some (36, true)), []⟩,
          ⟨some 38, .load none (.t 37), (some (36, true)), []⟩,
          ⟨some 39, .mov (.t 5), (some (36, true)), []⟩,
          ⟨some 40, .slc 3 (.t 38) none (some (.t 39)), (some (36, true)), []⟩,
          ⟨some 41, .mkfn 39 [(.t 6)], (some (36, true)), []⟩,
          ⟨some 42, .call false [] 38 [(.t 40), (.t 41)], (some (36, true)), []⟩,
          ⟨some 43, .pick (.t 36) (.t 42) (.c (.bool false)), none, []⟩] false)
        (.cond (.t 43)
          (.region [
            ⟨some 44, .ifc 1 (.c (.int .i64 7)), none, []⟩,
            ⟨some 8, .mov (.t 44), none, []⟩] false)
          (.skip)))
        (.seq (.region [
          ⟨some 45, .mov (.t 8), none, []⟩,
          ⟨some 46, .eqn false true (.t 45), none, []⟩] false)
        (.cond (.t 46)
          (.seq (.region [
            ⟨some 47, .mov (.t 5), none, []⟩,
            ⟨some 48, .mov (.t 7), none, []⟩,
            ⟨some 49, .mov (.t 8), none, []⟩,
            ⟨some 2, .mov (.t 47), none, []⟩,
            ⟨some 3, .mov (.t 48), none, []⟩,
            ⟨some 4, .mov (.t 49), none, []⟩] false)
          (.ret))
          (.skip)))))))
      (.region [
        ⟨some 50, .bin .int .add (.t 24) (.c (.int .i64 1)), none, []⟩,
        ⟨some 24, .mov (.t 50), none, []⟩] false)))))))
  (.seq (.seq (.region [
    ⟨some 51, .load (some 1) (.t 1), none, []⟩,
    ⟨some 52, .call false [] 40 [(.t 51)], none, []⟩,
    ⟨some 53, .bin .int .gtr (.t 52) (.c (.int .i64 3000)), none, []⟩] false)
  (.cond (.t 53)
    (.seq (.region [
      ⟨some 54, .ifc 1 (.c (.int .i64 4)), none, []⟩,
      ⟨some 2, .mov (.c (.int .i64 (-1))), none, []⟩,
      ⟨some 3, .mov (.c (.int .i64 (-1))), none, []⟩,
      ⟨some 4, .mov (.t 54), none, []⟩] false)
    (.ret))
    (.skip)))
  (.seq (.region [
    ⟨some 2, .mov (.c (.int .i64 (-1))), none, []⟩,
    ⟨some 3, .mov (.c (.int .i64 (-1))), none, []⟩,
    ⟨some 4, .mov (.c (.nilIface)), none, []⟩] false)
  (.ret)))))
def f14 : AFunc := { np := 1, nt := 55, res := [.tmp 2, .tmp 3, .tmp 4], muts := [], own := false, body := b14 }

/- tallyhall/outline.Check -/
def b15 : ACode :=
  .seq (.region [
    ⟨some 1, .box (.t 0), none, []⟩,
    ⟨some 2, .mov (.c (.int .i64 0)), none, []⟩,
    ⟨some 3, .mov (.c (.nilIface)), none, []⟩] false)
  (.seq (.seq (.region [
    ⟨some 7, .fa 0 (.t 1), none, []⟩,
    ⟨some 8, .load none (.t 7), none, []⟩,
    ⟨some 9, .call false [] 41 [(.t 8)], none, []⟩,
    ⟨some 4, .mov (.t 9), none, []⟩] false)
  (.seq (.region [
    ⟨some 10, .mov (.t 4), none, []⟩,
    ⟨some 11, .eqn false true (.t 10), none, []⟩] false)
  (.cond (.t 11)
    (.seq (.region [
      ⟨some 12, .mov (.t 4), none, []⟩,
      ⟨some 2, .mov (.c (.int .i64 (-1))), none, []⟩,
      ⟨some 3, .mov (.t 12), none, []⟩] false)
    (.ret))
    (.skip))))
  (.seq (.block 0 (.seq (.region [
      ⟨some 14, .fa 1 (.t 1), none, []⟩,
      ⟨some 15, .load none (.t 14), none, []⟩,
      ⟨some 16, .bin .int .lss (.t 15) (.c (.int .i64 0)), none, []⟩,
      ⟨some 17, .mov (.t 16), none, []⟩,
      ⟨some 18, .fa 1 (.t 1), (some (17, false)), []⟩,
      ⟨some 19, .load none (.t 18), (some (17, false)), []⟩,
      ⟨some 20, .bin .int .gtr (.t 19) (.c (.int .i64 9)), (some (17, false)), []⟩,
      ⟨some 21, .pick (.t 17) (.c (.bool true)) (.t 20), none, []⟩,
      ⟨some 13, .mov (.t 21), none, []⟩] false)
    (.cond (.t 13)
      (.seq (.region [
        ⟨some 22, .ifc 1 (.c (.int .i64 1)), none, []⟩,
        ⟨some 2, .mov (.c (.int .i64 (-1))), none, []⟩,
        ⟨some 3, .mov (.t 22), none, []⟩] false)
      (.ret))
      (.seq (.region [
        ⟨some 24, .fa 2 (.t 1), none, []⟩,
        ⟨some 25, .load none (.t 24), none, []⟩,
        ⟨some 26, .len false (.t 25), none, []⟩,
        ⟨some 27, .bin .int .gtr (.t 26) (.c (.int .i64 12)), none, []⟩,
        ⟨some 23, .mov (.t 27), none, []⟩] false)
      (.cond (.t 23)
        (.seq (.region [
          ⟨some 28, .ifc 1 (.c (.int .i64 4)), none, []⟩,
          ⟨some 2, .mov (.c (.int .i64 (-1))), none, []⟩,
          ⟨some 3, .mov (.t 28), none, []⟩] false)
        (.ret))
        (.seq (.region [
          ⟨some 30, .fa 2 (.t 1), none, []⟩,
          ⟨some 31, .load none (.t 30), none, []⟩,
          ⟨some 32, .len false (.t 31), none, []⟩,
          ⟨some 33, .bin .int .eql (.t 32) (.c (.int .i64 0)), none, []⟩,
          ⟨some 29, .mov (.t 33), none, []⟩] false)
        (.cond (.t 29)
          (.seq (.region [
            ⟨some 34, .ifc 1 (.c (.int .i64 5)), none, []⟩,
            ⟨some 2, .mov (.c (.int .i64 (-1))), none, []⟩,
            ⟨some 3, .mov (.t 34), none, []⟩] false)
          (.ret))
          (.skip))))))))
  (.seq (.seq (.region [
    ⟨some 35, .fa 2 (.t 1), none, []⟩,
    ⟨some 36, .load none (.t 35), none, []⟩,
    ⟨some 37, .len false (.t 36), none, []⟩,
    ⟨some 38, .mov (.c (.int .i64 0)), none, []⟩] false)
  (.block 1 (.loop (.seq (.region [
        ⟨some 39, .bin .int .lss (.t 38) (.t 37), none, []⟩] false)
      (.seq (.cond (.t 39)
        (.skip)
        (.exit 1))
      (.seq (.block 2 (.seq (.region [
          ⟨some 40, .mov (.t 38), none, []⟩,
          ⟨some 5, .mov (.t 40), none, []⟩] false)
        (.seq (.region [
          ⟨some 41, .fa 2 (.t 1), none, []⟩,
          ⟨some 42, .load none (.t 41), none, []⟩,
          ⟨some 43, .mov (.t 5), none, []⟩,
          ⟨some 44, .call false [] 42 [(.t 42), (.t 43)], none, []⟩,
          ⟨some 6, .mov (.t 44), none, []⟩] false)
        (.seq (.region [
          ⟨some 45, .mov (.t 6), none, []⟩,
          ⟨some 46, .eqn false true (.t 45), none, []⟩] false)
        (.cond (.t 46)
          (.seq (.region [
            ⟨some 47, .mov (.t 5), none, []⟩,
            ⟨some 48, .mov (.t 6), none, []⟩,
            ⟨some 2, .mov (.t 47), none, []⟩,
            ⟨some 3, .mov (.t 48), none, []⟩] false)
          (.ret))
          (.skip))))))
      (.region [
        ⟨some 49, .bin .int .add (.t 38) (.c (.int .i64 1)), none, []⟩,
        ⟨some 38, .mov (.t 49), none, []⟩] false)))))))
  (.seq (.region [
    ⟨some 2, .mov (.c (.int .i64 (-1))), none, []⟩,
    ⟨some 3, .mov (.c (.nilIface)), none, []⟩] false)
  (.ret)))))
def f15 : AFunc := { np := 1, nt := 50, res := [.tmp 2, .tmp 3], muts := [], own := false, body := b15 }

/- tallyhall/tree.Weight -/
def b16 : ACode :=
  .seq (.region [
    ⟨some 3, .box (.t 0), none, []⟩,
    ⟨some 6, .mov (.c (.int .i64 0)), none, []⟩,
    ⟨some 7, .mov (.c (.nilIface)), none, []⟩] false)
  (.seq (.seq (.region [
    ⟨some 11, .load (some 3) (.t 3), none, []⟩,
    ⟨some 12, .mov (.t 1), none, []⟩,
    ⟨some 13, .mov (.t 2), none, []⟩,
    ⟨some 14, .bslice false 1 [.int .i64 0] 2 [(0, (.t 12)), (1, (.t 13))], none, []⟩,
    ⟨some 15, .call false [] 43 [(.t 11), (.t 14)], none, []⟩,
    ⟨some 8, .mov (.t 15), none, []⟩] false)
  (.seq (.region [
    ⟨some 16, .mov (.t 8), none, []⟩,
    ⟨some 17, .eqn false true (.t 16), none, []⟩] false)
  (.cond (.t 17)
    (.seq (.region [
      ⟨some 18, .mov (.t 8), none, []⟩,
      ⟨some 6, .mov (.c (.int .i64 0)), none, []⟩,
      ⟨some 7, .mov (.t 18), none, []⟩] false)
    (.ret))
    (.skip))))
  (.seq (.seq (.region [
    ⟨some 19, .load (some 3) (.t 3), none, []⟩,
    ⟨some 20, .mov (.t 2), none, []⟩,
    ⟨some 21, .call false [] 44 [(.t 19), (.t 20)], none, []⟩,
    ⟨some 22, .un .not (.t 21), none, []⟩] false)
  (.cond (.t 22)
    (.seq (.region [
      ⟨some 23, .ifc 1 (.c (.int .i64 3)), none, []⟩,
      ⟨some 6, .mov (.c (.int .i64 0)), none, []⟩,
      ⟨some 7, .mov (.t 23), none, []⟩] false)
    (.ret))
    (.skip)))
  (.seq (.region [
    ⟨some 25, .load (some 3) (.t 3), none, []⟩,
    ⟨some 26, .mov (.t 1), none, []⟩,
    ⟨some 27, .mov (.t 2), none, []⟩,
    ⟨some 28, .call false [] 45 [(.t 25), (.t 26), (.t 27)], none, []⟩,
    ⟨some 24, .mov (.t 28), none, []⟩,
    ⟨some 29, .ext (.t 24) 0, none, []⟩,
    ⟨some 30, .ext (.t 24) 1, none, []⟩,
    ⟨some 9, .mov (.t 29), none, []⟩,
    ⟨some 10, .mov (.t 30), none, []⟩] false)
  (.seq (.region [
    ⟨some 31, .mov (.t 9), none, []⟩,
    ⟨some 6, .mov (.t 31), none, []⟩,
    ⟨some 7, .mov (.c (.nilIface)), none, []⟩] false)
  (.ret)))))
def f16 : AFunc := { np := 3, nt := 32, res := [.tmp 6, .tmp 7], muts := [], own := false, body := b16 }

/- tallyhall/tree.Leafs -/
def b17 : ACode :=
  .seq (.region [
    ⟨some 2, .box (.t 0), none, []⟩,
    ⟨some 4, .mov (.c (.slice none 0 0)), none, []⟩,
    ⟨some 5, .mov (.c (.nilIface)), none, []⟩] false)
  (.seq (.seq (.region [
    ⟨some 7, .load (some 3) (.t 2), none, []⟩,
    ⟨some 8, .mov (.t 1), none, []⟩,
    ⟨some 9, .bslice false 1 [.int .i64 0] 1 [(0, (.t 8))], none, []⟩,
    ⟨some 10, .call false [] 43 [(.t 7), (.t 9)], none, []⟩,
    ⟨some 6, .mov (.t 10), none, []⟩] false)
  (.seq (.region [
    ⟨some 11, .mov (.t 6), none, []⟩,
    ⟨some 12, .eqn false true (.t 11), none, []⟩] false)
  (.cond (.t 12)
    (.seq (.region [
      ⟨some 13, .mov (.t 6), none, []⟩,
      ⟨some 4, .mov (.c (.slice none 0 0)), none, []⟩,
      ⟨some 5, .mov (.t 13), none, []⟩] false)
    (.ret))
    (.skip))))
  (.seq (.region [
    ⟨some 14, .load (some 3) (.t 2), none, []⟩,
    ⟨some 15, .mov (.t 1), none, []⟩,
    ⟨some 16, .call true [] 46 [(.t 14), (.t 15)], none, []⟩,
    ⟨some 4, .mov (.t 16), none, []⟩,
    ⟨some 5, .mov (.c (.nilIface)), none, []⟩] false)
  (.ret)))
def f17 : AFunc := { np := 2, nt := 17, res := [.tmp 4, .tmp 5], muts := [], own := false, body := b17 }

/- tallyhall/tree.Parts -/
def b18 : ACode :=
  .seq (.region [
    ⟨some 2, .box (.t 0), none, []⟩,
    ⟨some 4, .mov (.c (.slice none 0 0)), none, []⟩,
    ⟨some 5, .mov (.c (.nilIface)), none, []⟩] false)
  (.seq (.seq (.region [
    ⟨some 7, .load (some 3) (.t 2), none, []⟩,
    ⟨some 8, .mov (.t 1), none, []⟩,
    ⟨some 9, .bslice false 1 [.int .i64 0] 1 [(0, (.t 8))], none, []⟩,
    ⟨some 10, .call false [] 43 [(.t 7), (.t 9)], none, []⟩,
    ⟨some 6, .mov (.t 10), none, []⟩] false)
  (.seq (.region [
    ⟨some 11, .mov (.t 6), none, []⟩,
    ⟨some 12, .eqn false true (.t 11), none, []⟩] false)
  (.cond (.t 12)
    (.seq (.region [
      ⟨some 13, .mov (.t 6), none, []⟩,
      ⟨some 4, .mov (.c (.slice none 0 0)), none, []⟩,
      ⟨some 5, .mov (.t 13), none, []⟩] false)
    (.ret))
    (.skip))))
  (.seq (.region [
    ⟨some 14, .load (some 3) (.t 2), none, []⟩,
    ⟨some 15, .mov (.t 1), none, []⟩,
    ⟨some 16, .call true [] 47 [(.t 14), (.t 15)], none, []⟩,
    ⟨some 4, .mov (.t 16), none, []⟩,
    ⟨some 5, .mov (.c (.nilIface)), none, []⟩] false)
  (.ret)))
def f18 : AFunc := { np := 2, nt := 17, res := [.tmp 4, .tmp 5], muts := [], own := false, body := b18 }

/- tallyhall/tree.Path -/
def b19 : ACode :=
  .seq (.region [
    ⟨some 2, .box (.t 0), none, []⟩,
    ⟨some 4, .mov (.c (.slice none 0 0)), none, []⟩,
    ⟨some 5, .mov (.c (.nilIface)), none, []⟩] false)
  (.seq (.seq (.region [
    ⟨some 7, .load (some 3) (.t 2), none, []⟩,
    ⟨some 8, .mov (.t 1), none, []⟩,
    ⟨some 9, .bslice false 1 [.int .i64 0] 1 [(0, (.t 8))], none, []⟩,
    ⟨some 10, .call false [] 43 [(.t 7), (.t 9)], none, []⟩,
    ⟨some 6, .mov (.t 10), none, []⟩] false)
  (.seq (.region [
    ⟨some 11, .mov (.t 6), none, []⟩,
    ⟨some 12, .eqn false true (.t 11), none, []⟩] false)
  (.cond (.t 12)
    (.seq (.region [
      ⟨some 13, .mov (.t 6), none, []⟩,
      ⟨some 4, .mov (.c (.slice none 0 0)), none, []⟩,
      ⟨some 5, .mov (.t 13), none, []⟩] false)
    (.ret))
    (.skip))))
  (.seq (.region [
    ⟨some 14, .load (some 3) (.t 2), none, []⟩,
    ⟨some 15, .mov (.t 1), none, []⟩,
    ⟨some 16, .call true [] 48 [(.t 14), (.t 15)], none, []⟩,
    ⟨some 4, .mov (.t 16), none, []⟩,
    ⟨some 5, .mov (.c (.nilIface)), none, []⟩] false)
  (.ret)))
def f19 : AFunc := { np := 2, nt := 17, res := [.tmp 4, .tmp 5], muts := [], own := false, body := b19 }

/- tallyhall/tree.Leaf -/
def b20 : ACode :=
  .seq (.region [
    ⟨some 2, .box (.t 0), none, []⟩,
    ⟨some 4, .mov (.c (.bool false)), none, []⟩,
    ⟨some 5, .mov (.c (.nilIface)), none, []⟩] false)
  (.seq (.seq (.region [
    ⟨some 7, .load (some 3) (.t 2), none, []⟩,
    ⟨some 8, .mov (.t 1), none, []⟩,
    ⟨some 9, .bslice false 1 [.int .i64 0] 1 [(0, (.t 8))], none, []⟩,
    ⟨some 10, .call false [] 43 [(.t 7), (.t 9)], none, []⟩,
    ⟨some 6, .mov (.t 10), none, []⟩] false)
  (.seq (.region [
    ⟨some 11, .mov (.t 6), none, []⟩,
    ⟨some 12, .eqn false true (.t 11), none, []⟩] false)
  (.cond (.t 12)
    (.seq (.region [
      ⟨some 13, .mov (.t 6), none, []⟩,
      ⟨some 4, .mov (.c (.bool false)), none, []⟩,
      ⟨some 5, .mov (.t 13), none, []⟩] false)
    (.ret))
    (.skip))))
  (.seq (.region [
    ⟨some 14, .load (some 3) (.t 2), none, []⟩,
    ⟨some 15, .mov (.t 1), none, []⟩,
    ⟨some 16, .call false [] 44 [(.t 14), (.t 15)], none, []⟩,
    ⟨some 4, .mov (.t 16), none, []⟩,
    ⟨some 5, .mov (.c (.nilIface)), none, []⟩] false)
  (.ret)))
def f20 : AFunc := { np := 2, nt := 17, res := [.tmp 4, .tmp 5], muts := [], own := false, body := b20 }

/- tallyhall/fold.Cells -/
def b21 : ACode :=
  .seq (.region [
    ⟨some 2, .box (.t 0), none, []⟩,
    ⟨some 4, .mov (.c (.slice none 0 0)), none, []⟩,
    ⟨some 5, .mov (.c (.nilIface)), none, []⟩] false)
  (.seq (.seq (.region [
    ⟨some 10, .load (some 1) (.t 2), none, []⟩,
    ⟨some 11, .mov (.t 1), none, []⟩,
    ⟨some 12, .call false [] 27 [(.t 10), (.t 11)], none, []⟩,
    ⟨some 6, .mov (.t 12), none, []⟩] false)
  (.seq (.region [
    ⟨some 13, .mov (.t 6), none, []⟩,
    ⟨some 14, .eqn false true (.t 13), none, []⟩] false)
  (.cond (.t 14)
    (.seq (.region [
      ⟨some 15, .mov (.t 6), none, []⟩,
      ⟨some 4, .mov (.c (.slice none 0 0)), none, []⟩,
      ⟨some 5, .mov (.t 15), none, []⟩] false)
    (.ret))
    (.skip))))
  (.seq (.region [
    ⟨some 16, .load (some 1) (.t 2), none, []⟩,
    ⟨some 17, .call false [] 40 [(.t 16)], none, []⟩,
    ⟨some 18, .mksl 2 [.int .i64 0, .int .i64 0] (.t 17) (.t 17), none, []⟩,
    ⟨some 7, .mov (.t 18), none, []⟩] false)
  (.seq (.seq (.region [
    ⟨some 19, .mov (.t 1), none, []⟩,
    ⟨some 20, .len false (.t 19), none, []⟩,
    ⟨some 21, .mov (.c (.int .i64 0)), none, []⟩] false)
  (.block 0 (.loop (.seq (.region [
        ⟨some 22, .bin .int .lss (.t 21) (.t 20), none, []⟩] false)
      (.seq (.cond (.t 22)
        (.skip)
        (.exit 0))
      (.seq (.block 1 (.seq (.region [
          ⟨some 23, .ia 2 (.t 19) (.t 21), none, []⟩,
          ⟨some 24, .load (some 2) (.t 23), none, []⟩,
          ⟨some 9, .alloc [.slice none 0 0, .int .i64 0], none, []⟩,
          ⟨none, .store 2 (.t 9) (.t 24), none, []⟩] false)
        (.region [
          ⟨some 25, .mov (.t 7), none, []⟩,
          ⟨some 26, .load (some 1) (.t 2), none, []⟩,
          ⟨some 27, .fa 0 (.t 9), none, []⟩,
          ⟨some 28, .load none (.t 27), none, [2]⟩,
          ⟨some 29, .call false [] 49 [(.t 26), (.t 28)], none, [1, 3]⟩,
          ⟨some 30, .fa 1 (.t 9), none, []⟩,
          ⟨some 31, .load none (.t 30), none, [5]⟩,
          ⟨some 32, .call false [] 8 [(.t 31)], none, [6, 4]⟩,
          ⟨some 33, .ia 2 (.t 25) (.t 29), none, [0, 4, 0, 1, 2, 3, 4, 5, 6, 7]⟩,
          ⟨none, .store 2 (.t 33) (.t 32), none, [8, 7, 7, 0, 1, 2, 3, 4, 5, 6, 7]⟩] true)))
      (.region [
        ⟨some 34, .bin .int .add (.t 21) (.c (.int .i64 1)), none, []⟩,
        ⟨some 21, .mov (.t 34), none, []⟩] false)))))))
  (.seq (.region [
    ⟨some 35, .mov (.t 7), none, []⟩,
    ⟨some 4, .mov (.t 35), none, []⟩,
    ⟨some 5, .mov (.c (.nilIface)), none, []⟩] false)
  (.ret)))))
def f21 : AFunc := { np := 2, nt := 36, res := [.tmp 4, .tmp 5], muts := [], own := false, body := b21 }

/- tallyhall/tallylaw4.square -/
def b22 : ACode :=
  .seq (.region [
    ⟨some 2, .alloc [.slice none 0 0], none, []⟩] false)
  (.seq (.region [
    ⟨some 3, .mov (.t 0), none, []⟩,
    ⟨some 4, .call true [] 50 [(.c (.string ⟨#[120]⟩)), (.t 3)], none, []⟩,
    ⟨some 5, .mov (.t 0), none, []⟩,
    ⟨some 6, .call true [] 50 [(.c (.string ⟨#[121]⟩)), (.t 5)], none, []⟩,
    ⟨some 7, .bslice true 3 [.string ⟨#[]⟩, .int .i64 0, .slice none 0 0] 2 [(0, (.t 4)), (1, (.t 6))], none, []⟩,
    ⟨some 8, .build [.slice none 0 0] [(0, 1, (.t 7))], none, []⟩,
    ⟨none, .store 1 (.t 2) (.t 8), none, []⟩] false)
  (.ret))
def f22 : AFunc := { np := 1, nt := 9, res := [.cell 2 (some 1)], muts := [], own := false, body := b22 }

/- tallyhall/fold.Once -/
def b23 : ACode :=
  .seq (.region [
    ⟨some 3, .box (.t 0), none, []⟩,
    ⟨some 6, .mov (.c (.slice none 0 0)), none, []⟩,
    ⟨some 7, .mov (.c (.nilIface)), none, []⟩] false)
  (.seq (.seq (.region [
    ⟨some 12, .load (some 1) (.t 3), none, []⟩,
    ⟨some 13, .call false [] 51 [(.t 12)], none, []⟩,
    ⟨some 8, .mov (.t 13), none, []⟩] false)
  (.seq (.region [
    ⟨some 14, .mov (.t 8), none, []⟩,
    ⟨some 15, .eqn false true (.t 14), none, []⟩] false)
  (.cond (.t 15)
    (.seq (.region [
      ⟨some 16, .mov (.t 8), none, []⟩,
      ⟨some 6, .mov (.c (.slice none 0 0)), none, []⟩,
      ⟨some 7, .mov (.t 16), none, []⟩] false)
    (.ret))
    (.skip))))
  (.seq (.seq (.region [
    ⟨some 17, .mov (.t 1), none, []⟩,
    ⟨some 18, .len false (.t 17), none, []⟩,
    ⟨some 19, .load (some 1) (.t 3), none, []⟩,
    ⟨some 20, .call false [] 40 [(.t 19)], none, []⟩,
    ⟨some 21, .bin .int .neq (.t 18) (.t 20), none, []⟩] false)
  (.cond (.t 21)
    (.seq (.region [
      ⟨some 22, .ifc 1 (.c (.int .i64 3)), none, []⟩,
      ⟨some 6, .mov (.c (.slice none 0 0)), none, []⟩,
      ⟨some 7, .mov (.t 22), none, []⟩] false)
    (.ret))
    (.skip)))
  (.seq (.seq (.region [
    ⟨some 23, .mov (.t 1), none, []⟩,
    ⟨some 24, .len false (.t 23), none, []⟩,
    ⟨some 25, .mov (.c (.int .i64 0)), none, []⟩] false)
  (.block 0 (.loop (.seq (.region [
        ⟨some 26, .bin .int .lss (.t 25) (.t 24), none, []⟩] false)
      (.seq (.cond (.t 26)
        (.skip)
        (.exit 0))
      (.seq (.block 1 (.seq (.region [
          ⟨some 27, .ia 2 (.t 23) (.t 25), none, []⟩,
          ⟨some 28, .load (some 2) (.t 27), none, []⟩,
          ⟨some 10, .alloc [.int .i64 0, .int .i64 0], none, []⟩,
          ⟨none, .store 2 (.t 10) (.t 28), none, []⟩] false)
        (.seq (.region [
          ⟨some 29, .load (some 2) (.t 10), none, []⟩,
          ⟨some 30, .call false [] 52 [(.t 29)], none, []⟩,
          ⟨some 11, .mov (.t 30), none, []⟩] false)
        (.seq (.region [
          ⟨some 31, .mov (.t 11), none, []⟩,
          ⟨some 32, .eqn false true (.t 31), none, []⟩] false)
        (.cond (.t 32)
          (.seq (.region [
            ⟨some 33, .mov (.t 11), none, []⟩,
            ⟨some 6, .mov (.c (.slice none 0 0)), none, []⟩,
            ⟨some 7, .mov (.t 33), none, []⟩] false)
          (.ret))
          (.skip))))))
      (.region [
        ⟨some 34, .bin .int .add (.t 25) (.c (.int .i64 1)), none, []⟩,
        ⟨some 25, .mov (.t 34), none, []⟩] false)))))))
  (.seq (.seq (.region [
    ⟨some 35, .mov (.t 2), none, []⟩,
    ⟨some 36, .bin .int .lss (.t 35) (.c (.int .i64 0)), none, []⟩,
    ⟨some 37, .mov (.t 36), none, []⟩,
    ⟨some 38, .mov (.t 2), (some (37, false)), []⟩,
    ⟨some 39, .fa 0 (.t 3), (some (37, false)), []⟩,
    ⟨some 40, .load none (.t 39), (some (37, false)), []⟩,
    ⟨some 41, .len false (.t 40), (some (37, false)), []⟩,
    ⟨some 42, .bin .int .geq (.t 38) (.t 41), (some (37, false)), []⟩,
    ⟨some 43, .pick (.t 37) (.c (.bool true)) (.t 42), none, []⟩] false)
  (.cond (.t 43)
    (.seq (.region [
      ⟨some 44, .ifc 1 (.c (.int .i64 1)), none, []⟩,
      ⟨some 6, .mov (.c (.slice none 0 0)), none, []⟩,
      ⟨some 7, .mov (.t 44), none, []⟩] false)
    (.ret))
    (.skip)))
  (.seq (.region [
    ⟨some 45, .mov (.t 1), none, []⟩,
    ⟨some 46, .call true [] 53 [(.t 45)], none, []⟩,
    ⟨some 1, .mov (.t 46), none, []⟩] false)
  (.seq (.region [
    ⟨some 47, .load (some 1) (.t 3), none, []⟩,
    ⟨some 48, .mov (.t 1), none, []⟩,
    ⟨some 49, .mov (.t 2), none, []⟩,
    ⟨some 50, .call false [] 54 [(.t 47), (.t 48), (.t 49)], none, []⟩] false)
  (.seq (.region [
    ⟨some 51, .mov (.t 1), none, []⟩,
    ⟨some 6, .mov (.t 51), none, []⟩,
    ⟨some 7, .mov (.c (.nilIface)), none, []⟩] false)
  (.ret))))))))
def f23 : AFunc := { np := 3, nt := 52, res := [.tmp 6, .tmp 7], muts := [], own := false, body := b23 }

/- tallyhall/tallysame.Cells -/
def b24 : ACode :=
  .seq (.region [
    ⟨some 4, .mov (.c (.bool false)), none, []⟩] false)
  (.seq (.seq (.region [
    ⟨some 6, .mov (.t 0), none, []⟩,
    ⟨some 7, .len false (.t 6), none, []⟩,
    ⟨some 8, .mov (.t 1), none, []⟩,
    ⟨some 9, .len false (.t 8), none, []⟩,
    ⟨some 10, .bin .int .neq (.t 7) (.t 9), none, []⟩] false)
  (.cond (.t 10)
    (.seq (.region [
      ⟨some 4, .mov (.c (.bool false)), none, []⟩] false)
    (.ret))
    (.skip)))
  (.seq (.seq (.region [
    ⟨some 5, .mov (.c (.int .i64 0)), none, []⟩] false)
  (.block 0 (.loop (.seq (.seq (.region [
        ⟨some 11, .mov (.t 5), none, []⟩,
        ⟨some 12, .mov (.t 0), none, []⟩,
        ⟨some 13, .len false (.t 12), none, []⟩,
        ⟨some 14, .bin .int .lss (.t 11) (.t 13), none, []⟩] false)
      (.cond (.t 14)
        (.skip)
        (.exit 0)))
      (.seq (.block 1 (.seq (.region [
          ⟨some 17, .mov (.t 0), none, []⟩,
          ⟨some 18, .mov (.t 5), none, []⟩,
          ⟨some 19, .ia 2 (.t 17) (.t 18), none, [0, 1]⟩,
          ⟨some 20, .load (some 2) (.t 19), none, [2]⟩,
          ⟨some 21, .mov (.t 1), none, []⟩,
          ⟨some 22, .mov (.t 5), none, []⟩,
          ⟨some 23, .ia 2 (.t 21) (.t 22), none, [4, 5]⟩,
          ⟨some 24, .load (some 2) (.t 23), none, [6]⟩,
          ⟨some 25, .eqa true [(0, .int), (1, .int)] (.t 20) (.t 24), none, [3, 7]⟩] true)
        (.cond (.t 25)
          (.seq (.region [
            ⟨some 4, .mov (.c (.bool false)), none, []⟩] false)
          (.ret))
          (.skip))))
      (.region [
        ⟨some 15, .mov (.t 5), none, []⟩,
        ⟨some 16, .bin .int .add (.t 15) (.c (.int .i64 1)), none, []⟩,
        ⟨some 5, .mov (.t 16), none, []⟩] false))))))
  (.seq (.region [
    ⟨some 4, .mov (.c (.bool true)), none, []⟩] false)
  (.ret))))
def f24 : AFunc := { np := 2, nt := 26, res := [.tmp 4], muts := [], own := false, body := b24 }

/- tallyhall/input.Set -/
def b25 : ACode :=
  .seq (.region [
    ⟨some 4, .box (.t 0), none, []⟩,
    ⟨some 8, .mov (.c (.slice none 0 0)), none, []⟩,
    ⟨some 9, .mov (.c (.nilIface)), none, []⟩] false)
  (.seq (.region [
    ⟨some 10, .load (some 1) (.t 4), none, []⟩,
    ⟨some 11, .mov (.t 1), none, []⟩,
    ⟨some 12, .mov (.t 2), none, []⟩,
    ⟨some 13, .mov (.t 3), none, []⟩,
    ⟨some 14, .build [.slice none 0 0, .int .i64 0, .bool false] [(0, 1, (.t 12)), (1, 1, (.t 13))], none, []⟩,
    ⟨some 15, .call true [] 55 [(.t 10), (.t 11), (.t 14)], none, []⟩,
    ⟨some 16, .ext (.t 15) 0, none, []⟩,
    ⟨some 17, .ext (.t 15) 1, none, []⟩,
    ⟨some 8, .mov (.t 16), none, []⟩,
    ⟨some 9, .mov (.t 17), none, []⟩] false)
  (.ret))
def f25 : AFunc := { np := 4, nt := 18, res := [.tmp 8, .tmp 9], muts := [], own := false, body := b25 }

/- tallyhall/input.Get -/
def b26 : ACode :=
  .seq (.region [
    ⟨some 3, .box (.t 0), none, []⟩,
    ⟨some 6, .alloc [.int .i64 0, .int .i64 0], none, []⟩,
    ⟨some 7, .mov (.c (.nilIface)), none, []⟩] false)
  (.seq (.seq (.region [
    ⟨some 9, .load (some 1) (.t 3), none, []⟩,
    ⟨some 10, .mov (.t 1), none, []⟩,
    ⟨some 11, .mov (.t 2), none, []⟩,
    ⟨some 12, .call false [] 56 [(.t 9), (.t 10), (.t 11)], none, []⟩,
    ⟨some 8, .mov (.t 12), none, []⟩] false)
  (.seq (.region [
    ⟨some 13, .mov (.t 8), none, []⟩,
    ⟨some 14, .eqn false true (.t 13), none, []⟩] false)
  (.cond (.t 14)
    (.seq (.region [
      ⟨some 15, .build [.int .i64 0, .int .i64 0] [], none, []⟩,
      ⟨some 16, .mov (.t 8), none, []⟩,
      ⟨none, .store 2 (.t 6) (.t 15), none, []⟩,
      ⟨some 7, .mov (.t 16), none, []⟩] false)
    (.ret))
    (.skip))))
  (.seq (.region [
    ⟨some 17, .mov (.t 1), none, []⟩,
    ⟨some 18, .mov (.t 2), none, []⟩,
    ⟨some 19, .call false [] 57 [(.t 17), (.t 18)], none, []⟩,
    ⟨none, .store 2 (.t 6) (.t 19), none, []⟩,
    ⟨some 7, .mov (.c (.nilIface)), none, []⟩] false)
  (.ret)))
def f26 : AFunc := { np := 3, nt := 20, res := [.cell 6 (some 2), .tmp 7], muts := [], own := false, body := b26 }

/- tallyhall/input.Check -/
def b27 : ACode :=
  .seq (.region [
    ⟨some 2, .box (.t 0), none, []⟩,
    ⟨some 4, .mov (.c (.nilIface)), none, []⟩] false)
  (.seq (.seq (.region [
    ⟨some 9, .load (some 1) (.t 2), none, []⟩,
    ⟨some 10, .call false [] 51 [(.t 9)], none, []⟩,
    ⟨some 5, .mov (.t 10), none, []⟩] false)
  (.seq (.region [
    ⟨some 11, .mov (.t 5), none, []⟩,
    ⟨some 12, .eqn false true (.t 11), none, []⟩] false)
  (.cond (.t 12)
    (.seq (.region [
      ⟨some 13, .mov (.t 5), none, []⟩,
      ⟨some 4, .mov (.t 13), none, []⟩] false)
    (.ret))
    (.skip))))
  (.seq (.seq (.region [
    ⟨some 14, .mov (.t 1), none, []⟩,
    ⟨some 15, .len false (.t 14), none, []⟩,
    ⟨some 16, .mov (.c (.int .i64 0)), none, []⟩] false)
  (.block 0 (.loop (.seq (.region [
        ⟨some 17, .bin .int .lss (.t 16) (.t 15), none, []⟩] false)
      (.seq (.cond (.t 17)
        (.skip)
        (.exit 0))
      (.seq (.block 1 (.seq (.region [
          ⟨some 18, .mov (.t 16), none, []⟩,
          ⟨some 19, .ia 2 (.t 14) (.t 16), none, []⟩,
          ⟨some 20, .load (some 2) (.t 19), none, []⟩,
          ⟨some 7, .alloc [.slice none 0 0, .int .i64 0], none, []⟩,
          ⟨some 6, .mov (.t 18), none, []⟩,
          ⟨none, .store 2 (.t 7) (.t 20), none, []⟩] false)
        (.seq (.seq (.region [
          ⟨some 21, .load (some 1) (.t 2), none, []⟩,
          ⟨some 22, .fa 0 (.t 7), none, []⟩,
          ⟨some 23, .load none (.t 22), none, []⟩,
          ⟨some 24, .call false [] 58 [(.t 21), (.t 23)], none, []⟩,
          ⟨some 8, .mov (.t 24), none, []⟩] false)
        (.seq (.region [
          ⟨some 25, .mov (.t 8), none, []⟩,
          ⟨some 26, .eqn false true (.t 25), none, []⟩] false)
        (.cond (.t 26)
          (.seq (.region [
            ⟨some 27, .mov (.t 8), none, []⟩,
            ⟨some 4, .mov (.t 27), none, []⟩] false)
          (.ret))
          (.skip))))
        (.block 2 (.seq (.region [
            ⟨some 29, .load (some 1) (.t 2), none, []⟩,
            ⟨some 30, .fa 0 (.t 7), none, []⟩,
            ⟨some 31, .load none (.t 30), none, []⟩,
            ⟨some 32, .call false [] 59 [(.t 29), (.t 31)], none, []⟩,
            ⟨some 33, .un .not (.t 32), none, []⟩,
            ⟨some 28, .mov (.t 33), none, []⟩] false)
          (.cond (.t 28)
            (.seq (.region [
              ⟨some 34, .ifc 1 (.c (.int .i64 6)), none, []⟩,
              ⟨some 4, .mov (.t 34), none, []⟩] false)
            (.ret))
            (.seq (.region [
              ⟨some 36, .fa 1 (.t 7), none, []⟩,
              ⟨some 37, .load none (.t 36), none, []⟩,
              ⟨some 38, .call false [] 60 [(.t 37)], none, []⟩,
              ⟨some 39, .un .not (.t 38), none, []⟩,
              ⟨some 35, .mov (.t 39), none, []⟩] false)
            (.cond (.t 35)
              (.seq (.region [
                ⟨some 40, .ifc 1 (.c (.int .i64 1)), none, []⟩,
                ⟨some 4, .mov (.t 40), none, []⟩] false)
              (.ret))
              (.seq (.region [
                ⟨some 42, .mov (.t 6), none, []⟩,
                ⟨some 43, .bin .int .gtr (.t 42) (.c (.int .i64 0)), none, [0]⟩,
                ⟨some 44, .mov (.t 43), none, [1]⟩,
                ⟨some 45, .mov (.t 1), (some (44, true)), [2]⟩,
                ⟨some 46, .mov (.t 6), (some (44, true)), [2]⟩,
                ⟨some 47, .bin .int .sub (.t 46) (.c (.int .i64 1)), (some (44, true)), [4, 2]⟩,
                ⟨some 48, .ia 2 (.t 45) (.t 47), (some (44, true)), [3, 5, 2]⟩,
                ⟨some 49, .load (some 2) (.t 48), (some (44, true)), [6, 2]⟩,
                ⟨some 50, .load (some 2) (.t 7), (some (44, true)), [2]⟩,
                ⟨some 51, .call false [] 61 [(.t 49), (.t 50)], (some (44, true)), [7, 8, 2, 2]⟩,
                ⟨some 52, .bin .int .geq (.t 51) (.c (.int .i64 0)), (some (44, true)), [9, 2]⟩,
                ⟨some 53, .pick (.t 44) (.t 52) (.c (.bool false)), none, [2, 10]⟩,
                ⟨some 41, .mov (.t 53), none, [11, 9]⟩] true)
              (.cond (.t 41)
                (.seq (.region [
                  ⟨some 54, .ifc 1 (.c (.int .i64 7)), none, []⟩,
                  ⟨some 4, .mov (.t 54), none, []⟩] false)
                (.ret))
                (.skip)))))))))))
      (.region [
        ⟨some 55, .bin .int .add (.t 16) (.c (.int .i64 1)), none, []⟩,
        ⟨some 16, .mov (.t 55), none, []⟩] false)))))))
  (.seq (.region [
    ⟨some 4, .mov (.c (.nilIface)), none, []⟩] false)
  (.ret))))
def f27 : AFunc := { np := 2, nt := 56, res := [.tmp 4], muts := [], own := false, body := b27 }

/- tallyhall/tallysame.Place -/
def b28 : ACode :=
  .seq (.region [
    ⟨some 4, .mov (.c (.bool false)), none, []⟩] false)
  (.seq (.seq (.region [
    ⟨some 6, .mov (.t 0), none, []⟩,
    ⟨some 7, .len false (.t 6), none, []⟩,
    ⟨some 8, .mov (.t 1), none, []⟩,
    ⟨some 9, .len false (.t 8), none, []⟩,
    ⟨some 10, .bin .int .neq (.t 7) (.t 9), none, []⟩] false)
  (.cond (.t 10)
    (.seq (.region [
      ⟨some 4, .mov (.c (.bool false)), none, []⟩] false)
    (.ret))
    (.skip)))
  (.seq (.seq (.region [
    ⟨some 5, .mov (.c (.int .i64 0)), none, []⟩] false)
  (.block 0 (.loop (.seq (.seq (.region [
        ⟨some 11, .mov (.t 5), none, []⟩,
        ⟨some 12, .mov (.t 0), none, []⟩,
        ⟨some 13, .len false (.t 12), none, []⟩,
        ⟨some 14, .bin .int .lss (.t 11) (.t 13), none, []⟩] false)
      (.cond (.t 14)
        (.skip)
        (.exit 0)))
      (.seq (.block 1 (.seq (.region [
          ⟨some 17, .mov (.t 0), none, []⟩,
          ⟨some 18, .mov (.t 5), none, []⟩,
          ⟨some 19, .ia 1 (.t 17) (.t 18), none, [0, 1]⟩,
          ⟨some 20, .load none (.t 19), none, [2]⟩,
          ⟨some 21, .mov (.t 1), none, []⟩,
          ⟨some 22, .mov (.t 5), none, []⟩,
          ⟨some 23, .ia 1 (.t 21) (.t 22), none, [4, 5]⟩,
          ⟨some 24, .load none (.t 23), none, [6]⟩,
          ⟨some 25, .bin .int .neq (.t 20) (.t 24), none, [3, 7]⟩] true)
        (.cond (.t 25)
          (.seq (.region [
            ⟨some 4, .mov (.c (.bool false)), none, []⟩] false)
          (.ret))
          (.skip))))
      (.region [
        ⟨some 15, .mov (.t 5), none, []⟩,
        ⟨some 16, .bin .int .add (.t 15) (.c (.int .i64 1)), none, []⟩,
        ⟨some 5, .mov (.t 16), none, []⟩] false))))))
  (.seq (.region [
    ⟨some 4, .mov (.c (.bool true)), none, []⟩] false)
  (.ret))))
def f28 : AFunc := { np := 2, nt := 26, res := [.tmp 4], muts := [], own := false, body := b28 }

/- tallyhall/input.Clear -/
def b29 : ACode :=
  .seq (.region [
    ⟨some 3, .box (.t 0), none, []⟩,
    ⟨some 6, .mov (.c (.slice none 0 0)), none, []⟩,
    ⟨some 7, .mov (.c (.nilIface)), none, []⟩] false)
  (.seq (.region [
    ⟨some 8, .load (some 1) (.t 3), none, []⟩,
    ⟨some 9, .mov (.t 1), none, []⟩,
    ⟨some 10, .mov (.t 2), none, []⟩,
    ⟨some 11, .build [.slice none 0 0, .int .i64 0, .bool false] [(0, 1, (.t 10)), (2, 1, (.c (.bool true)))], none, []⟩,
    ⟨some 12, .call true [] 55 [(.t 8), (.t 9), (.t 11)], none, []⟩,
    ⟨some 13, .ext (.t 12) 0, none, []⟩,
    ⟨some 14, .ext (.t 12) 1, none, []⟩,
    ⟨some 6, .mov (.t 13), none, []⟩,
    ⟨some 7, .mov (.t 14), none, []⟩] false)
  (.ret))
def f29 : AFunc := { np := 3, nt := 15, res := [.tmp 6, .tmp 7], muts := [], own := false, body := b29 }

/- tallyhall/cell.within -/
def b30 : ACode :=
  .seq (.region [
    ⟨some 2, .mov (.c (.bool false)), none, []⟩] false)
  (.seq (.region [
    ⟨some 3, .mov (.t 0), none, []⟩,
    ⟨some 4, .bin .int .geq (.t 3) (.c (.int .i64 (-1000000000000))), none, []⟩,
    ⟨some 5, .mov (.t 4), none, []⟩,
    ⟨some 6, .mov (.t 0), (some (5, true)), []⟩,
    ⟨some 7, .bin .int .leq (.t 6) (.c (.int .i64 1000000000000)), (some (5, true)), []⟩,
    ⟨some 8, .pick (.t 5) (.t 7) (.c (.bool false)), none, []⟩,
    ⟨some 2, .mov (.t 8), none, []⟩] false)
  (.ret))
def f30 : AFunc := { np := 1, nt := 9, res := [.tmp 2], muts := [], own := false, body := b30 }

/- tallyhall/cell.both -/
def b31 : ACode :=
  .seq (.region [
    ⟨some 3, .box (.t 0), none, []⟩,
    ⟨some 4, .box (.t 1), none, []⟩,
    ⟨some 6, .alloc [.int .i64 0, .int .i64 0], none, []⟩,
    ⟨some 7, .mov (.c (.nilIface)), none, []⟩] false)
  (.seq (.seq (.region [
    ⟨some 10, .load (some 2) (.t 3), none, []⟩,
    ⟨some 11, .call false [] 52 [(.t 10)], none, []⟩,
    ⟨some 8, .mov (.t 11), none, []⟩] false)
  (.seq (.region [
    ⟨some 12, .mov (.t 8), none, []⟩,
    ⟨some 13, .eqn false true (.t 12), none, []⟩] false)
  (.cond (.t 13)
    (.seq (.region [
      ⟨some 14, .build [.int .i64 0, .int .i64 0] [], none, []⟩,
      ⟨some 15, .mov (.t 8), none, []⟩,
      ⟨none, .store 2 (.t 6) (.t 14), none, []⟩,
      ⟨some 7, .mov (.t 15), none, []⟩] false)
    (.ret))
    (.skip))))
  (.seq (.seq (.region [
    ⟨some 16, .load (some 2) (.t 4), none, []⟩,
    ⟨some 17, .call false [] 52 [(.t 16)], none, []⟩,
    ⟨some 9, .mov (.t 17), none, []⟩] false)
  (.seq (.region [
    ⟨some 18, .mov (.t 9), none, []⟩,
    ⟨some 19, .eqn false true (.t 18), none, []⟩] false)
  (.cond (.t 19)
    (.seq (.region [
      ⟨some 20, .build [.int .i64 0, .int .i64 0] [], none, []⟩,
      ⟨some 21, .mov (.t 9), none, []⟩,
      ⟨none, .store 2 (.t 6) (.t 20), none, []⟩,
      ⟨some 7, .mov (.t 21), none, []⟩] false)
    (.ret))
    (.skip))))
  (.seq (.region [
    ⟨some 22, .mov (.t 2), none, []⟩,
    ⟨some 23, .load (some 2) (.t 3), none, []⟩,
    ⟨some 24, .load (some 2) (.t 4), none, []⟩,
    ⟨some 25, .calld false (.t 22) [(.t 23), (.t 24)], none, []⟩,
    ⟨none, .store 2 (.t 6) (.t 25), none, []⟩,
    ⟨some 7, .mov (.c (.nilIface)), none, []⟩] false)
  (.ret))))
def f31 : AFunc := { np := 3, nt := 26, res := [.cell 6 (some 2), .tmp 7], muts := [], own := false, body := b31 }

/- tallyhall/cell.Add lit 1 -/
def b32 : ACode :=
  .seq (.region [
    ⟨some 2, .box (.t 0), none, []⟩,
    ⟨some 3, .box (.t 1), none, []⟩,
    ⟨some 4, .alloc [.int .i64 0, .int .i64 0], none, []⟩] false)
  (.seq (.region [
    ⟨some 5, .load (some 2) (.t 2), none, []⟩,
    ⟨some 6, .load (some 2) (.t 3), none, []⟩,
    ⟨some 7, .call false [] 33 [(.t 5), (.t 6), (.c (.int .i64 1))], none, []⟩,
    ⟨none, .store 2 (.t 4) (.t 7), none, []⟩] false)
  (.ret))
def f32 : AFunc := { np := 2, nt := 8, res := [.cell 4 (some 2)], muts := [], own := false, body := b32 }

/- tallyhall/cell.Plus -/
def b33 : ACode :=
  .seq (.region [
    ⟨some 3, .box (.t 0), none, []⟩,
    ⟨some 4, .box (.t 1), none, []⟩,
    ⟨some 6, .alloc [.int .i64 0, .int .i64 0], none, []⟩] false)
  (.seq (.block 0 (.seq (.region [
      ⟨some 8, .fa 0 (.t 3), none, []⟩,
      ⟨some 9, .load none (.t 8), none, []⟩,
      ⟨some 10, .bin .int .eql (.t 9) (.c (.int .i64 2)), none, []⟩,
      ⟨some 11, .mov (.t 10), none, []⟩,
      ⟨some 12, .fa 0 (.t 4), (some (11, false)), []⟩,
      ⟨some 13, .load none (.t 12), (some (11, false)), []⟩,
      ⟨some 14, .bin .int .eql (.t 13) (.c (.int .i64 2)), (some (11, false)), []⟩,
      ⟨some 15, .pick (.t 11) (.c (.bool true)) (.t 14), none, []⟩,
      ⟨some 7, .mov (.t 15), none, []⟩] false)
    (.cond (.t 7)
      (.seq (.region [
        ⟨some 16, .build [.int .i64 0, .int .i64 0] [(0, 1, (.c (.int .i64 2)))], none, []⟩,
        ⟨none, .store 2 (.t 6) (.t 16), none, []⟩] false)
      (.ret))
      (.seq (.region [
        ⟨some 18, .fa 0 (.t 3), none, []⟩,
        ⟨some 19, .load none (.t 18), none, []⟩,
        ⟨some 20, .bin .int .eql (.t 19) (.c (.int .i64 0)), none, []⟩,
        ⟨some 21, .mov (.t 20), none, []⟩,
        ⟨some 22, .fa 0 (.t 4), (some (21, true)), []⟩,
        ⟨some 23, .load none (.t 22), (some (21, true)), []⟩,
        ⟨some 24, .bin .int .eql (.t 23) (.c (.int .i64 0)), (some (21, true)), []⟩,
        ⟨some 25, .pick (.t 21) (.t 24) (.c (.bool false)), none, []⟩,
        ⟨some 17, .mov (.t 25), none, []⟩] false)
      (.cond (.t 17)
        (.seq (.region [
          ⟨some 26, .build [.int .i64 0, .int .i64 0] [], none, []⟩,
          ⟨none, .store 2 (.t 6) (.t 26), none, []⟩] false)
        (.ret))
        (.skip))))))
  (.seq (.region [
    ⟨some 27, .fa 1 (.t 3), none, []⟩,
    ⟨some 28, .load none (.t 27), none, []⟩,
    ⟨some 29, .mov (.t 2), none, []⟩,
    ⟨some 30, .fa 1 (.t 4), none, []⟩,
    ⟨some 31, .load none (.t 30), none, []⟩,
    ⟨some 32, .bin .int .mul (.t 29) (.t 31), none, []⟩,
    ⟨some 33, .bin .int .add (.t 28) (.t 32), none, []⟩,
    ⟨some 34, .call false [] 8 [(.t 33)], none, []⟩,
    ⟨none, .store 2 (.t 6) (.t 34), none, []⟩] false)
  (.ret)))
def f33 : AFunc := { np := 3, nt := 35, res := [.cell 6 (some 2)], muts := [], own := false, body := b33 }

/- tallyhall/cell.Times -/
def b34 : ACode :=
  .seq (.region [
    ⟨some 2, .box (.t 0), none, []⟩,
    ⟨some 3, .box (.t 1), none, []⟩,
    ⟨some 4, .alloc [.int .i64 0, .int .i64 0], none, []⟩] false)
  (.seq (.block 0 (.seq (.region [
      ⟨some 6, .fa 0 (.t 2), none, []⟩,
      ⟨some 7, .load none (.t 6), none, []⟩,
      ⟨some 8, .bin .int .eql (.t 7) (.c (.int .i64 2)), none, []⟩,
      ⟨some 9, .mov (.t 8), none, []⟩,
      ⟨some 10, .fa 0 (.t 3), (some (9, false)), []⟩,
      ⟨some 11, .load none (.t 10), (some (9, false)), []⟩,
      ⟨some 12, .bin .int .eql (.t 11) (.c (.int .i64 2)), (some (9, false)), []⟩,
      ⟨some 13, .pick (.t 9) (.c (.bool true)) (.t 12), none, []⟩,
      ⟨some 5, .mov (.t 13), none, []⟩] false)
    (.cond (.t 5)
      (.seq (.region [
        ⟨some 14, .build [.int .i64 0, .int .i64 0] [(0, 1, (.c (.int .i64 2)))], none, []⟩,
        ⟨none, .store 2 (.t 4) (.t 14), none, []⟩] false)
      (.ret))
      (.seq (.region [
        ⟨some 16, .fa 0 (.t 2), none, []⟩,
        ⟨some 17, .load none (.t 16), none, []⟩,
        ⟨some 18, .bin .int .eql (.t 17) (.c (.int .i64 0)), none, []⟩,
        ⟨some 19, .mov (.t 18), none, []⟩,
        ⟨some 20, .fa 0 (.t 3), (some (19, false)), []⟩,
        ⟨some 21, .load none (.t 20), (some (19, false)), []⟩,
        ⟨some 22, .bin .int .eql (.t 21) (.c (.int .i64 0)), (some (19, false)), []⟩,
        ⟨some 23, .pick (.t 19) (.c (.bool true)) (.t 22), none, []⟩,
        ⟨some 15, .mov (.t 23), none, []⟩] false)
      (.cond (.t 15)
        (.seq (.region [
          ⟨some 24, .build [.int .i64 0, .int .i64 0] [], none, []⟩,
          ⟨none, .store 2 (.t 4) (.t 24), none, []⟩] false)
        (.ret))
        (.seq (.region [
          ⟨some 26, .fa 1 (.t 2), none, []⟩,
          ⟨some 27, .load none (.t 26), none, [0]⟩,
          ⟨some 28, .bin .int .neq (.t 27) (.c (.int .i64 0)), none, [1]⟩,
          ⟨some 29, .mov (.t 28), none, [2]⟩,
          ⟨some 30, .fa 1 (.t 3), (some (29, true)), [3]⟩,
          ⟨some 31, .load none (.t 30), (some (29, true)), [4, 3]⟩,
          ⟨some 32, .call false [] 62 [(.t 31)], (some (29, true)), [5, 3, 3]⟩,
          ⟨some 33, .fa 1 (.t 2), (some (29, true)), [3]⟩,
          ⟨some 34, .load none (.t 33), (some (29, true)), [7, 3]⟩,
          ⟨some 35, .call false [] 62 [(.t 34)], (some (29, true)), [8, 6, 3]⟩,
          ⟨some 36, .bin .int .quo (.c (.int .i64 1000000000000)) (.t 35), (some (29, true)), [9, 3]⟩,
          ⟨some 37, .bin .int .gtr (.t 32) (.t 36), (some (29, true)), [6, 10, 3]⟩,
          ⟨some 38, .pick (.t 29) (.t 37) (.c (.bool false)), none, [3, 11]⟩,
          ⟨some 25, .mov (.t 38), none, [12, 9]⟩] true)
        (.cond (.t 25)
          (.seq (.region [
            ⟨some 39, .build [.int .i64 0, .int .i64 0] [(0, 1, (.c (.int .i64 2)))], none, []⟩,
            ⟨none, .store 2 (.t 4) (.t 39), none, []⟩] false)
          (.ret))
          (.skip))))))))
  (.seq (.region [
    ⟨some 40, .fa 1 (.t 2), none, []⟩,
    ⟨some 41, .load none (.t 40), none, []⟩,
    ⟨some 42, .fa 1 (.t 3), none, []⟩,
    ⟨some 43, .load none (.t 42), none, []⟩,
    ⟨some 44, .bin .int .mul (.t 41) (.t 43), none, []⟩,
    ⟨some 45, .call false [] 8 [(.t 44)], none, []⟩,
    ⟨none, .store 2 (.t 4) (.t 45), none, []⟩] false)
  (.ret)))
def f34 : AFunc := { np := 2, nt := 46, res := [.cell 4 (some 2)], muts := [], own := false, body := b34 }

/- tallyhall/cell.Over -/
def b35 : ACode :=
  .seq (.region [
    ⟨some 2, .box (.t 0), none, []⟩,
    ⟨some 3, .box (.t 1), none, []⟩,
    ⟨some 4, .alloc [.int .i64 0, .int .i64 0], none, []⟩] false)
  (.seq (.block 0 (.seq (.region [
      ⟨some 6, .fa 0 (.t 2), none, []⟩,
      ⟨some 7, .load none (.t 6), none, []⟩,
      ⟨some 8, .bin .int .eql (.t 7) (.c (.int .i64 2)), none, []⟩,
      ⟨some 9, .mov (.t 8), none, []⟩,
      ⟨some 10, .fa 0 (.t 3), (some (9, false)), []⟩,
      ⟨some 11, .load none (.t 10), (some (9, false)), []⟩,
      ⟨some 12, .bin .int .eql (.t 11) (.c (.int .i64 2)), (some (9, false)), []⟩,
      ⟨some 13, .pick (.t 9) (.c (.bool true)) (.t 12), none, []⟩,
      ⟨some 5, .mov (.t 13), none, []⟩] false)
    (.cond (.t 5)
      (.seq (.region [
        ⟨some 14, .build [.int .i64 0, .int .i64 0] [(0, 1, (.c (.int .i64 2)))], none, []⟩,
        ⟨none, .store 2 (.t 4) (.t 14), none, []⟩] false)
      (.ret))
      (.seq (.region [
        ⟨some 16, .fa 0 (.t 2), none, []⟩,
        ⟨some 17, .load none (.t 16), none, []⟩,
        ⟨some 18, .bin .int .eql (.t 17) (.c (.int .i64 0)), none, []⟩,
        ⟨some 19, .mov (.t 18), none, []⟩,
        ⟨some 20, .fa 0 (.t 3), (some (19, false)), []⟩,
        ⟨some 21, .load none (.t 20), (some (19, false)), []⟩,
        ⟨some 22, .bin .int .eql (.t 21) (.c (.int .i64 0)), (some (19, false)), []⟩,
        ⟨some 23, .pick (.t 19) (.c (.bool true)) (.t 22), none, []⟩,
        ⟨some 15, .mov (.t 23), none, []⟩] false)
      (.cond (.t 15)
        (.seq (.region [
          ⟨some 24, .build [.int .i64 0, .int .i64 0] [], none, []⟩,
          ⟨none, .store 2 (.t 4) (.t 24), none, []⟩] false)
        (.ret))
        (.seq (.region [
          ⟨some 26, .fa 1 (.t 3), none, []⟩,
          ⟨some 27, .load none (.t 26), none, []⟩,
          ⟨some 28, .bin .int .eql (.t 27) (.c (.int .i64 0)), none, []⟩,
          ⟨some 25, .mov (.t 28), none, []⟩] false)
        (.cond (.t 25)
          (.seq (.region [
            ⟨some 29, .build [.int .i64 0, .int .i64 0] [(0, 1, (.c (.int .i64 2)))], none, []⟩,
            ⟨none, .store 2 (.t 4) (.t 29), none, []⟩] false)
          (.ret))
          (.skip))))))))
  (.seq (.region [
    ⟨some 30, .fa 1 (.t 2), none, []⟩,
    ⟨some 31, .load none (.t 30), none, []⟩,
    ⟨some 32, .fa 1 (.t 3), none, []⟩,
    ⟨some 33, .load none (.t 32), none, []⟩,
    ⟨some 34, .bin .int .quo (.t 31) (.t 33), none, []⟩,
    ⟨some 35, .call false [] 8 [(.t 34)], none, []⟩,
    ⟨none, .store 2 (.t 4) (.t 35), none, []⟩] false)
  (.ret)))
def f35 : AFunc := { np := 2, nt := 36, res := [.cell 4 (some 2)], muts := [], own := false, body := b35 }

/- tallyhall/cell.Sub lit 1 -/
def b36 : ACode :=
  .seq (.region [
    ⟨some 2, .box (.t 0), none, []⟩,
    ⟨some 3, .box (.t 1), none, []⟩,
    ⟨some 4, .alloc [.int .i64 0, .int .i64 0], none, []⟩] false)
  (.seq (.region [
    ⟨some 5, .load (some 2) (.t 2), none, []⟩,
    ⟨some 6, .load (some 2) (.t 3), none, []⟩,
    ⟨some 7, .call false [] 33 [(.t 5), (.t 6), (.c (.int .i64 (-1)))], none, []⟩,
    ⟨none, .store 2 (.t 4) (.t 7), none, []⟩] false)
  (.ret))
def f36 : AFunc := { np := 2, nt := 8, res := [.cell 4 (some 2)], muts := [], own := false, body := b36 }

/- tallyhall/outline.Where -/
def b37 : ACode :=
  .seq (.region [
    ⟨some 3, .box (.t 1), none, []⟩,
    ⟨some 4, .mov (.c (.int .i64 0)), none, []⟩] false)
  (.seq (.region [
    ⟨some 5, .mov (.t 0), none, []⟩,
    ⟨some 6, .mkfn 64 [(.t 3)], none, []⟩,
    ⟨some 7, .call false [] 63 [(.t 5), (.t 6)], none, []⟩,
    ⟨some 4, .mov (.t 7), none, []⟩] false)
  (.ret))
def f37 : AFunc := { np := 2, nt := 8, res := [.tmp 4], muts := [], own := false, body := b37 }

/- slices.ContainsFunc[[]tallyhall/api.Dim,tallyhall/api.Dim] -/
def b38 : ACode :=
  .seq (.region [
    ⟨some 4, .mov (.c (.bool false)), none, []⟩] false)
  (.seq (.region [
    ⟨some 5, .mov (.t 0), none, []⟩,
    ⟨some 6, .mov (.t 1), none, []⟩,
    ⟨some 7, .call false [] 65 [(.t 5), (.t 6)], none, []⟩,
    ⟨some 8, .bin .int .geq (.t 7) (.c (.int .i64 0)), none, []⟩,
    ⟨some 4, .mov (.t 8), none, []⟩] false)
  (.ret))
def f38 : AFunc := { np := 2, nt := 9, res := [.tmp 4], muts := [], own := false, body := b38 }

/- tallyhall/outline.All lit 1 -/
def b39 : ACode :=
  .seq (.region [
    ⟨some 2, .box (.t 0), none, []⟩,
    ⟨some 3, .mov (.c (.bool false)), none, []⟩] false)
  (.seq (.region [
    ⟨some 4, .fa 0 (.t 2), none, []⟩,
    ⟨some 5, .load none (.t 4), none, []⟩,
    ⟨some 6, .fa 0 (.t 1), none, []⟩,
    ⟨some 7, .load none (.t 6), none, []⟩,
    ⟨some 8, .bin .str .eql (.t 5) (.t 7), none, []⟩,
    ⟨some 3, .mov (.t 8), none, []⟩] false)
  (.ret))
def f39 : AFunc := { np := 2, nt := 9, res := [.tmp 3], muts := [], own := false, body := b39 }

/- tallyhall/outline.Size -/
def b40 : ACode :=
  .seq (.region [
    ⟨some 1, .box (.t 0), none, []⟩,
    ⟨some 2, .mov (.c (.int .i64 0)), none, []⟩] false)
  (.seq (.region [
    ⟨some 3, .mov (.c (.int .i64 1)), none, []⟩] false)
  (.seq (.seq (.region [
    ⟨some 6, .fa 0 (.t 1), none, []⟩,
    ⟨some 7, .load none (.t 6), none, []⟩,
    ⟨some 8, .len false (.t 7), none, []⟩,
    ⟨some 9, .mov (.c (.int .i64 0)), none, []⟩] false)
  (.block 0 (.loop (.seq (.region [
        ⟨some 10, .bin .int .lss (.t 9) (.t 8), none, []⟩] false)
      (.seq (.cond (.t 10)
        (.skip)
        (.exit 0))
      (.seq (.block 1 (.seq (.region [
          ⟨some 11, .ia 3 (.t 7) (.t 9), none, []⟩,
          ⟨some 12, .load (some 3) (.t 11), none, []⟩,
          ⟨some 5, .alloc [.string ⟨#[]⟩, .int .i64 0, .slice none 0 0], none, []⟩,
          ⟨none, .store 3 (.t 5) (.t 12), none, []⟩] false)
        (.region [
          ⟨some 13, .mov (.t 3), none, []⟩,
          ⟨some 14, .fa 2 (.t 5), none, []⟩,
          ⟨some 15, .load none (.t 14), none, []⟩,
          ⟨some 16, .len false (.t 15), none, []⟩,
          ⟨some 17, .bin .int .mul (.t 13) (.t 16), none, []⟩,
          ⟨some 3, .mov (.t 17), none, []⟩] false)))
      (.region [
        ⟨some 18, .bin .int .add (.t 9) (.c (.int .i64 1)), none, []⟩,
        ⟨some 9, .mov (.t 18), none, []⟩] false)))))))
  (.seq (.region [
    ⟨some 19, .mov (.t 3), none, []⟩,
    ⟨some 2, .mov (.t 19), none, []⟩] false)
  (.ret))))
def f40 : AFunc := { np := 1, nt := 20, res := [.tmp 2], muts := [], own := false, body := b40 }

/- tallyhall/outline.Name -/
def b41 : ACode :=
  .seq (.region [
    ⟨some 2, .mov (.c (.nilIface)), none, []⟩] false)
  (.seq (.seq (.region [
    ⟨some 3, .mov (.t 0), none, []⟩,
    ⟨some 4, .bin .str .eql (.t 3) (.c (.string ⟨#[]⟩)), none, []⟩,
    ⟨some 5, .mov (.t 4), none, []⟩,
    ⟨some 6, .mov (.t 0), (some (5, false)), []⟩,
    ⟨some 7, .len true (.t 6), (some (5, false)), []⟩,
    ⟨some 8, .bin .int .gtr (.t 7) (.c (.int .i64 8)), (some (5, false)), []⟩,
    ⟨some 9, .pick (.t 5) (.c (.bool true)) (.t 8), none, []⟩,
    ⟨some 10, .mov (.t 9), none, []⟩,
    ⟨some 11, .mov (.t 0), (some (10, false)), []⟩,
    ⟨some 12, .cvs (.t 11), (some (10, false)), []⟩,
    ⟨some 13, .call false [] 66 [(.t 12), (.f 67)], (some (10, false)), []⟩,
    ⟨some 14, .pick (.t 10) (.c (.bool true)) (.t 13), none, []⟩] false)
  (.cond (.t 14)
    (.seq (.region [
      ⟨some 15, .ifc 1 (.c (.int .i64 2)), none, []⟩,
      ⟨some 2, .mov (.t 15), none, []⟩] false)
    (.ret))
    (.skip)))
  (.seq (.region [
    ⟨some 2, .mov (.c (.nilIface)), none, []⟩] false)
  (.ret)))
def f41 : AFunc := { np := 1, nt := 16, res := [.tmp 2], muts := [], own := false, body := b41 }

/- tallyhall/outline.member -/
def b42 : ACode :=
  .seq (.region [
    ⟨some 4, .mov (.c (.nilIface)), none, []⟩] false)
  (.seq (.region [
    ⟨some 7, .mov (.t 0), none, []⟩,
    ⟨some 8, .mov (.t 1), none, []⟩,
    ⟨some 9, .ia 4 (.t 7) (.t 8), none, []⟩,
    ⟨some 10, .load (some 4) (.t 9), none, []⟩,
    ⟨some 5, .alloc [.string ⟨#[]⟩, .int .i64 0, .int .i64 0, .string ⟨#[]⟩], none, []⟩,
    ⟨none, .store 4 (.t 5) (.t 10), none, []⟩] false)
  (.seq (.seq (.region [
    ⟨some 11, .fa 0 (.t 5), none, []⟩,
    ⟨some 12, .load none (.t 11), none, []⟩,
    ⟨some 13, .call false [] 41 [(.t 12)], none, []⟩,
    ⟨some 6, .mov (.t 13), none, []⟩] false)
  (.seq (.region [
    ⟨some 14, .mov (.t 6), none, []⟩,
    ⟨some 15, .eqn false true (.t 14), none, []⟩] false)
  (.cond (.t 15)
    (.seq (.region [
      ⟨some 16, .mov (.t 6), none, []⟩,
      ⟨some 4, .mov (.t 16), none, []⟩] false)
    (.ret))
    (.skip))))
  (.seq (.block 0 (.seq (.region [
      ⟨some 18, .mov (.t 0), none, []⟩,
      ⟨some 19, .mov (.t 1), none, []⟩,
      ⟨some 20, .slc 4 (.t 18) none (some (.t 19)), none, [0, 1]⟩,
      ⟨some 21, .fa 0 (.t 5), none, []⟩,
      ⟨some 22, .load none (.t 21), none, [3]⟩,
      ⟨some 23, .call false [] 37 [(.t 20), (.t 22)], none, [2, 4]⟩,
      ⟨some 24, .bin .int .geq (.t 23) (.c (.int .i64 0)), none, [5]⟩,
      ⟨some 17, .mov (.t 24), none, [6, 5]⟩] true)
    (.cond (.t 17)
      (.seq (.region [
        ⟨some 25, .ifc 1 (.c (.int .i64 7)), none, []⟩,
        ⟨some 4, .mov (.t 25), none, []⟩] false)
      (.ret))
      (.seq (.region [
        ⟨some 27, .fa 1 (.t 5), none, []⟩,
        ⟨some 28, .load none (.t 27), none, []⟩,
        ⟨some 29, .bin .int .lss (.t 28) (.c (.int .i64 (-1))), none, []⟩,
        ⟨some 30, .mov (.t 29), none, []⟩,
        ⟨some 31, .fa 1 (.t 5), (some (30, false)), []⟩,
        ⟨some 32, .load none (.t 31), (some (30, false)), []⟩,
        ⟨some 33, .mov (.t 1), (some (30, false)), []⟩,
        ⟨some 34, .bin .int .geq (.t 32) (.t 33), (some (30, false)), []⟩,
        ⟨some 35, .pick (.t 30) (.c (.bool true)) (.t 34), none, []⟩,
        ⟨some 26, .mov (.t 35), none, []⟩] false)
      (.cond (.t 26)
        (.seq (.region [
          ⟨some 36, .ifc 1 (.c (.int .i64 1)), none, []⟩,
          ⟨some 4, .mov (.t 36), none, []⟩] false)
        (.ret))
        (.seq (.region [
          ⟨some 38, .fa 1 (.t 5), none, []⟩,
          ⟨some 39, .load none (.t 38), none, []⟩,
          ⟨some 40, .bin .int .geq (.t 39) (.c (.int .i64 0)), none, []⟩,
          ⟨some 41, .mov (.t 40), none, []⟩,
          ⟨some 42, .mov (.t 0), (some (41, true)), []⟩,
          ⟨some 43, .fa 1 (.t 5), (some (41, true)), []⟩,
          ⟨some 44, .load none (.t 43), (some (41, true)), []⟩,
          ⟨some 45, .ia 4 (.t 42) (.t 44), (some (41, true)), []⟩,
          ⟨some 46, .fa 3 (.t 45), (some (41, true)), []⟩,
          ⟨some 47, .load none (.t 46), (some (41, true)), []⟩,
          ⟨some 48, .bin .str .neq (.t 47) (.c (.string ⟨#[]⟩)), (some (41, true)), []⟩,
          ⟨some 49, .pick (.t 41) (.t 48) (.c (.bool false)), none, []⟩,
          ⟨some 37, .mov (.t 49), none, []⟩] false)
        (.cond (.t 37)
          (.seq (.region [
            ⟨some 50, .ifc 1 (.c (.int .i64 6)), none, []⟩,
            ⟨some 4, .mov (.t 50), none, []⟩] false)
          (.ret))
          (.seq (.region [
            ⟨some 52, .fa 2 (.t 5), none, []⟩,
            ⟨some 53, .load none (.t 52), none, []⟩,
            ⟨some 54, .bin .int .lss (.t 53) (.c (.int .i64 (-1))), none, []⟩,
            ⟨some 55, .mov (.t 54), none, []⟩,
            ⟨some 56, .fa 2 (.t 5), (some (55, false)), []⟩,
            ⟨some 57, .load none (.t 56), (some (55, false)), []⟩,
            ⟨some 58, .bin .int .gtr (.t 57) (.c (.int .i64 1)), (some (55, false)), []⟩,
            ⟨some 59, .pick (.t 55) (.c (.bool true)) (.t 58), none, []⟩,
            ⟨some 51, .mov (.t 59), none, []⟩] false)
          (.cond (.t 51)
            (.seq (.region [
              ⟨some 60, .ifc 1 (.c (.int .i64 1)), none, []⟩,
              ⟨some 4, .mov (.t 60), none, []⟩] false)
            (.ret))
            (.seq (.region [
              ⟨some 62, .fa 3 (.t 5), none, []⟩,
              ⟨some 63, .load none (.t 62), none, []⟩,
              ⟨some 64, .len true (.t 63), none, []⟩,
              ⟨some 65, .bin .int .gtr (.t 64) (.c (.int .i64 100)), none, []⟩,
              ⟨some 61, .mov (.t 65), none, []⟩] false)
            (.cond (.t 61)
              (.seq (.region [
                ⟨some 66, .ifc 1 (.c (.int .i64 4)), none, []⟩,
                ⟨some 4, .mov (.t 66), none, []⟩] false)
              (.ret))
              (.skip))))))))))))
  (.seq (.region [
    ⟨some 4, .mov (.c (.nilIface)), none, []⟩] false)
  (.ret)))))
def f42 : AFunc := { np := 2, nt := 67, res := [.tmp 4], muts := [], own := false, body := b42 }

/- tallyhall/tree.ready -/
def b43 : ACode :=
  .seq (.region [
    ⟨some 2, .box (.t 0), none, []⟩,
    ⟨some 4, .mov (.c (.nilIface)), none, []⟩] false)
  (.seq (.seq (.region [
    ⟨some 10, .load (some 3) (.t 2), none, []⟩,
    ⟨some 11, .call false [] 15 [(.t 10)], none, []⟩,
    ⟨some 9, .mov (.t 11), none, []⟩,
    ⟨some 12, .ext (.t 9) 0, none, []⟩,
    ⟨some 13, .ext (.t 9) 1, none, []⟩,
    ⟨some 5, .mov (.t 12), none, []⟩,
    ⟨some 6, .mov (.t 13), none, []⟩] false)
  (.seq (.region [
    ⟨some 14, .mov (.t 6), none, []⟩,
    ⟨some 15, .eqn false true (.t 14), none, []⟩] false)
  (.cond (.t 15)
    (.seq (.region [
      ⟨some 16, .mov (.t 6), none, []⟩,
      ⟨some 4, .mov (.t 16), none, []⟩] false)
    (.ret))
    (.skip))))
  (.seq (.seq (.region [
    ⟨some 17, .mov (.t 1), none, []⟩,
    ⟨some 18, .len false (.t 17), none, []⟩,
    ⟨some 19, .mov (.c (.int .i64 0)), none, []⟩] false)
  (.block 0 (.loop (.seq (.region [
        ⟨some 20, .bin .int .lss (.t 19) (.t 18), none, []⟩] false)
      (.seq (.cond (.t 20)
        (.skip)
        (.exit 0))
      (.seq (.block 1 (.seq (.region [
          ⟨some 21, .ia 1 (.t 17) (.t 19), none, []⟩,
          ⟨some 22, .load none (.t 21), none, []⟩,
          ⟨some 8, .mov (.t 22), none, []⟩] false)
        (.seq (.region [
          ⟨some 23, .mov (.t 8), none, []⟩,
          ⟨some 24, .bin .int .lss (.t 23) (.c (.int .i64 0)), none, []⟩,
          ⟨some 25, .mov (.t 24), none, []⟩,
          ⟨some 26, .mov (.t 8), (some (25, false)), []⟩,
          ⟨some 27, .fa 2 (.t 2), (some (25, false)), []⟩,
          ⟨some 28, .load none (.t 27), (some (25, false)), []⟩,
          ⟨some 29, .len false (.t 28), (some (25, false)), []⟩,
          ⟨some 30, .bin .int .geq (.t 26) (.t 29), (some (25, false)), []⟩,
          ⟨some 31, .pick (.t 25) (.c (.bool true)) (.t 30), none, []⟩] false)
        (.cond (.t 31)
          (.seq (.region [
            ⟨some 32, .ifc 1 (.c (.int .i64 1)), none, []⟩,
            ⟨some 4, .mov (.t 32), none, []⟩] false)
          (.ret))
          (.skip)))))
      (.region [
        ⟨some 33, .bin .int .add (.t 19) (.c (.int .i64 1)), none, []⟩,
        ⟨some 19, .mov (.t 33), none, []⟩] false)))))))
  (.seq (.region [
    ⟨some 4, .mov (.c (.nilIface)), none, []⟩] false)
  (.ret))))
def f43 : AFunc := { np := 2, nt := 34, res := [.tmp 4], muts := [], own := false, body := b43 }

/- tallyhall/tree.IsLeaf -/
def b44 : ACode :=
  .seq (.region [
    ⟨some 2, .box (.t 0), none, []⟩,
    ⟨some 4, .mov (.c (.bool false)), none, []⟩] false)
  (.seq (.region [
    ⟨some 5, .fa 2 (.t 2), none, []⟩,
    ⟨some 6, .load none (.t 5), none, []⟩,
    ⟨some 7, .mov (.t 1), none, []⟩,
    ⟨some 8, .ia 4 (.t 6) (.t 7), none, []⟩,
    ⟨some 9, .fa 3 (.t 8), none, []⟩,
    ⟨some 10, .load none (.t 9), none, []⟩,
    ⟨some 11, .bin .str .eql (.t 10) (.c (.string ⟨#[]⟩)), none, []⟩,
    ⟨some 12, .mov (.t 11), none, []⟩,
    ⟨some 13, .load (some 3) (.t 2), (some (12, true)), []⟩,
    ⟨some 14, .mov (.t 1), (some (12, true)), []⟩,
    ⟨some 15, .call true [] 47 [(.t 13), (.t 14)], (some (12, true)), []⟩,
    ⟨some 16, .len false (.t 15), (some (12, true)), []⟩,
    ⟨some 17, .bin .int .eql (.t 16) (.c (.int .i64 0)), (some (12, true)), []⟩,
    ⟨some 18, .pick (.t 12) (.t 17) (.c (.bool false)), none, []⟩,
    ⟨some 4, .mov (.t 18), none, []⟩] false)
  (.ret))
def f44 : AFunc := { np := 2, nt := 19, res := [.tmp 4], muts := [], own := false, body := b44 }

/- tallyhall/tree.WeightOf -/
def b45 : ACode :=
  .seq (.region [
    ⟨some 3, .box (.t 0), none, []⟩,
    ⟨some 6, .mov (.c (.int .i64 0)), none, []⟩,
    ⟨some 7, .mov (.c (.bool false)), none, []⟩] false)
  (.seq (.region [
    ⟨some 8, .mov (.c (.int .i64 1)), none, []⟩] false)
  (.seq (.seq (.region [
    ⟨some 11, .load (some 3) (.t 3), none, []⟩,
    ⟨some 12, .mov (.t 2), none, []⟩,
    ⟨some 13, .call true [] 48 [(.t 11), (.t 12)], none, []⟩,
    ⟨some 14, .len false (.t 13), none, []⟩,
    ⟨some 15, .mov (.c (.int .i64 0)), none, []⟩] false)
  (.block 0 (.loop (.seq (.region [
        ⟨some 16, .bin .int .lss (.t 15) (.t 14), none, []⟩] false)
      (.seq (.cond (.t 16)
        (.skip)
        (.exit 0))
      (.seq (.block 1 (.seq (.region [
          ⟨some 17, .ia 1 (.t 13) (.t 15), none, []⟩,
          ⟨some 18, .load none (.t 17), none, []⟩,
          ⟨some 10, .mov (.t 18), none, []⟩] false)
        (.seq (.seq (.region [
          ⟨some 19, .mov (.t 10), none, []⟩,
          ⟨some 20, .mov (.t 1), none, []⟩,
          ⟨some 21, .bin .int .eql (.t 19) (.t 20), none, []⟩] false)
        (.cond (.t 21)
          (.seq (.region [
            ⟨some 22, .mov (.t 8), none, []⟩,
            ⟨some 6, .mov (.t 22), none, []⟩,
            ⟨some 7, .mov (.c (.bool true)), none, []⟩] false)
          (.ret))
          (.skip)))
        (.region [
          ⟨some 23, .mov (.t 8), none, []⟩,
          ⟨some 24, .fa 2 (.t 3), none, []⟩,
          ⟨some 25, .load none (.t 24), none, []⟩,
          ⟨some 26, .mov (.t 10), none, []⟩,
          ⟨some 27, .ia 4 (.t 25) (.t 26), none, []⟩,
          ⟨some 28, .fa 2 (.t 27), none, []⟩,
          ⟨some 29, .load none (.t 28), none, []⟩,
          ⟨some 30, .bin .int .mul (.t 23) (.t 29), none, []⟩,
          ⟨some 8, .mov (.t 30), none, []⟩] false))))
      (.region [
        ⟨some 31, .bin .int .add (.t 15) (.c (.int .i64 1)), none, []⟩,
        ⟨some 15, .mov (.t 31), none, []⟩] false)))))))
  (.seq (.region [
    ⟨some 6, .mov (.c (.int .i64 0)), none, []⟩,
    ⟨some 7, .mov (.c (.bool false)), none, []⟩] false)
  (.ret))))
def f45 : AFunc := { np := 3, nt := 32, res := [.tmp 6, .tmp 7], muts := [], own := false, body := b45 }

/- tallyhall/tree.LeafsOf -/
def b46 : ACode :=
  .seq (.region [
    ⟨some 2, .box (.t 0), none, []⟩,
    ⟨some 4, .mov (.c (.slice none 0 0)), none, []⟩] false)
  (.seq (.seq (.region [
    ⟨some 8, .fa 2 (.t 2), none, []⟩,
    ⟨some 9, .load none (.t 8), none, []⟩,
    ⟨some 10, .len false (.t 9), none, []⟩,
    ⟨some 11, .mov (.c (.int .i64 0)), none, []⟩] false)
  (.block 0 (.loop (.seq (.region [
        ⟨some 12, .bin .int .lss (.t 11) (.t 10), none, []⟩] false)
      (.seq (.cond (.t 12)
        (.skip)
        (.exit 0))
      (.seq (.block 1 (.seq (.region [
          ⟨some 13, .mov (.t 11), none, []⟩,
          ⟨some 5, .mov (.t 13), none, []⟩] false)
        (.seq (.region [
          ⟨some 15, .load (some 3) (.t 2), none, []⟩,
          ⟨some 16, .mov (.t 1), none, []⟩,
          ⟨some 17, .mov (.t 5), none, []⟩,
          ⟨some 18, .call false [] 45 [(.t 15), (.t 16), (.t 17)], none, []⟩,
          ⟨some 14, .mov (.t 18), none, []⟩,
          ⟨some 19, .ext (.t 14) 0, none, []⟩,
          ⟨some 20, .ext (.t 14) 1, none, []⟩,
          ⟨some 6, .mov (.t 19), none, []⟩,
          ⟨some 7, .mov (.t 20), none, []⟩] false)
        (.seq (.region [
          ⟨some 21, .mov (.t 7), none, []⟩,
          ⟨some 22, .mov (.t 21), none, []⟩,
          ⟨some 23, .load (some 3) (.t 2), (some (22, true)), []⟩,
          ⟨some 24, .mov (.t 5), (some (22, true)), []⟩,
          ⟨some 25, .call false [] 44 [(.t 23), (.t 24)], (some (22, true)), []⟩,
          ⟨some 26, .pick (.t 22) (.t 25) (.c (.bool false)), none, []⟩] false)
        (.cond (.t 26)
          (.region [
            ⟨some 27, .mov (.t 4), none, []⟩,
            ⟨some 28, .mov (.t 5), none, []⟩,
            ⟨some 29, .bslice false 1 [.int .i64 0] 1 [(0, (.t 28))], none, []⟩,
            ⟨some 30, .app 1 (.t 27) (.t 29), none, []⟩,
            ⟨some 4, .mov (.t 30), none, []⟩] false)
          (.skip))))))
      (.region [
        ⟨some 31, .bin .int .add (.t 11) (.c (.int .i64 1)), none, []⟩,
        ⟨some 11, .mov (.t 31), none, []⟩] false)))))))
  (.seq (.region [
    ⟨some 32, .mov (.t 4), none, []⟩,
    ⟨some 4, .mov (.t 32), none, []⟩] false)
  (.ret)))
def f46 : AFunc := { np := 2, nt := 33, res := [.tmp 4], muts := [], own := false, body := b46 }

/- tallyhall/tree.PartsOf -/
def b47 : ACode :=
  .seq (.region [
    ⟨some 2, .box (.t 0), none, []⟩,
    ⟨some 4, .mov (.c (.slice none 0 0)), none, []⟩] false)
  (.seq (.seq (.region [
    ⟨some 7, .fa 2 (.t 2), none, []⟩,
    ⟨some 8, .load none (.t 7), none, []⟩,
    ⟨some 9, .len false (.t 8), none, []⟩,
    ⟨some 10, .mov (.c (.int .i64 0)), none, []⟩] false)
  (.block 0 (.loop (.seq (.region [
        ⟨some 11, .bin .int .lss (.t 10) (.t 9), none, []⟩] false)
      (.seq (.cond (.t 11)
        (.skip)
        (.exit 0))
      (.seq (.block 1 (.seq (.region [
          ⟨some 12, .mov (.t 10), none, []⟩,
          ⟨some 13, .ia 4 (.t 8) (.t 10), none, []⟩,
          ⟨some 14, .load (some 4) (.t 13), none, []⟩,
          ⟨some 6, .alloc [.string ⟨#[]⟩, .int .i64 0, .int .i64 0, .string ⟨#[]⟩], none, []⟩,
          ⟨some 5, .mov (.t 12), none, []⟩,
          ⟨none, .store 4 (.t 6) (.t 14), none, []⟩] false)
        (.seq (.region [
          ⟨some 15, .fa 1 (.t 6), none, []⟩,
          ⟨some 16, .load none (.t 15), none, []⟩,
          ⟨some 17, .mov (.t 1), none, []⟩,
          ⟨some 18, .bin .int .eql (.t 16) (.t 17), none, []⟩] false)
        (.cond (.t 18)
          (.region [
            ⟨some 19, .mov (.t 4), none, []⟩,
            ⟨some 20, .mov (.t 5), none, []⟩,
            ⟨some 21, .bslice false 1 [.int .i64 0] 1 [(0, (.t 20))], none, []⟩,
            ⟨some 22, .app 1 (.t 19) (.t 21), none, []⟩,
            ⟨some 4, .mov (.t 22), none, []⟩] false)
          (.skip)))))
      (.region [
        ⟨some 23, .bin .int .add (.t 10) (.c (.int .i64 1)), none, []⟩,
        ⟨some 10, .mov (.t 23), none, []⟩] false)))))))
  (.seq (.region [
    ⟨some 24, .mov (.t 4), none, []⟩,
    ⟨some 4, .mov (.t 24), none, []⟩] false)
  (.ret)))
def f47 : AFunc := { np := 2, nt := 25, res := [.tmp 4], muts := [], own := false, body := b47 }

/- tallyhall/tree.up -/
def b48 : ACode :=
  .seq (.region [
    ⟨some 2, .box (.t 0), none, []⟩,
    ⟨some 4, .mov (.c (.slice none 0 0)), none, []⟩] false)
  (.seq (.block 0 (.loop (.seq (.seq (.region [
        ⟨some 5, .mov (.t 1), none, []⟩,
        ⟨some 6, .bin .int .geq (.t 5) (.c (.int .i64 0)), none, []⟩] false)
      (.cond (.t 6)
        (.skip)
        (.exit 0)))
      (.block 1 (.seq (.region [
          ⟨some 7, .mov (.t 4), none, []⟩,
          ⟨some 8, .mov (.t 1), none, []⟩,
          ⟨some 9, .bslice false 1 [.int .i64 0] 1 [(0, (.t 8))], none, []⟩,
          ⟨some 10, .app 1 (.t 7) (.t 9), none, []⟩,
          ⟨some 4, .mov (.t 10), none, []⟩] false)
        (.region [
          ⟨some 11, .fa 2 (.t 2), none, []⟩,
          ⟨some 12, .load none (.t 11), none, []⟩,
          ⟨some 13, .mov (.t 1), none, []⟩,
          ⟨some 14, .ia 4 (.t 12) (.t 13), none, []⟩,
          ⟨some 15, .fa 1 (.t 14), none, []⟩,
          ⟨some 16, .load none (.t 15), none, []⟩,
          ⟨some 1, .mov (.t 16), none, []⟩] false))))))
  (.seq (.region [
    ⟨some 17, .mov (.t 4), none, []⟩,
    ⟨some 4, .mov (.t 17), none, []⟩] false)
  (.ret)))
def f48 : AFunc := { np := 2, nt := 18, res := [.tmp 4], muts := [], own := false, body := b48 }

/- tallyhall/place.NumberOf -/
def b49 : ACode :=
  .seq (.region [
    ⟨some 2, .box (.t 0), none, []⟩,
    ⟨some 4, .mov (.c (.int .i64 0)), none, []⟩] false)
  (.seq (.region [
    ⟨some 5, .mov (.c (.int .i64 0)), none, []⟩] false)
  (.seq (.seq (.region [
    ⟨some 8, .mov (.t 1), none, []⟩,
    ⟨some 9, .len false (.t 8), none, []⟩,
    ⟨some 10, .mov (.c (.int .i64 0)), none, []⟩] false)
  (.block 0 (.loop (.seq (.region [
        ⟨some 11, .bin .int .lss (.t 10) (.t 9), none, []⟩] false)
      (.seq (.cond (.t 11)
        (.skip)
        (.exit 0))
      (.seq (.block 1 (.seq (.region [
          ⟨some 12, .mov (.t 10), none, []⟩,
          ⟨some 13, .ia 1 (.t 8) (.t 10), none, []⟩,
          ⟨some 14, .load none (.t 13), none, []⟩,
          ⟨some 6, .mov (.t 12), none, []⟩,
          ⟨some 7, .mov (.t 14), none, []⟩] false)
        (.region [
          ⟨some 15, .mov (.t 5), none, []⟩,
          ⟨some 16, .fa 0 (.t 2), none, []⟩,
          ⟨some 17, .load none (.t 16), none, []⟩,
          ⟨some 18, .mov (.t 6), none, []⟩,
          ⟨some 19, .ia 3 (.t 17) (.t 18), none, []⟩,
          ⟨some 20, .fa 2 (.t 19), none, []⟩,
          ⟨some 21, .load none (.t 20), none, []⟩,
          ⟨some 22, .len false (.t 21), none, []⟩,
          ⟨some 23, .bin .int .mul (.t 15) (.t 22), none, []⟩,
          ⟨some 24, .mov (.t 7), none, []⟩,
          ⟨some 25, .bin .int .add (.t 23) (.t 24), none, []⟩,
          ⟨some 5, .mov (.t 25), none, []⟩] false)))
      (.region [
        ⟨some 26, .bin .int .add (.t 10) (.c (.int .i64 1)), none, []⟩,
        ⟨some 10, .mov (.t 26), none, []⟩] false)))))))
  (.seq (.region [
    ⟨some 27, .mov (.t 5), none, []⟩,
    ⟨some 4, .mov (.t 27), none, []⟩] false)
  (.ret))))
def f49 : AFunc := { np := 2, nt := 28, res := [.tmp 4], muts := [], own := false, body := b49 }

/- tallyhall/tallylaw4.flat -/
def b50 : ACode :=
  .seq (.region [
    ⟨some 4, .alloc [.string ⟨#[]⟩, .int .i64 0, .slice none 0 0], none, []⟩] false)
  (.seq (.region [
    ⟨some 7, .mov (.t 0), none, []⟩,
    ⟨some 8, .build [.string ⟨#[]⟩, .int .i64 0, .int .i64 0, .string ⟨#[]⟩] [(0, 1, (.c (.string ⟨#[97, 108, 108]⟩))), (1, 1, (.c (.int .i64 (-1))))], none, []⟩,
    ⟨some 9, .bslice false 4 [.string ⟨#[]⟩, .int .i64 0, .int .i64 0, .string ⟨#[]⟩] 1 [(0, (.t 8))], none, []⟩,
    ⟨some 10, .build [.string ⟨#[]⟩, .int .i64 0, .slice none 0 0] [(0, 1, (.t 7)), (2, 1, (.t 9))], none, []⟩,
    ⟨some 5, .alloc [.string ⟨#[]⟩, .int .i64 0, .slice none 0 0], none, []⟩,
    ⟨none, .store 3 (.t 5) (.t 10), none, []⟩] false)
  (.seq (.seq (.region [
    ⟨some 6, .mov (.c (.int .i64 0)), none, []⟩] false)
  (.block 0 (.loop (.seq (.seq (.region [
        ⟨some 11, .mov (.t 6), none, []⟩,
        ⟨some 12, .mov (.t 1), none, []⟩,
        ⟨some 13, .bin .int .lss (.t 11) (.t 12), none, []⟩] false)
      (.cond (.t 13)
        (.skip)
        (.exit 0)))
      (.seq (.block 1 (.region [
          ⟨some 16, .fa 2 (.t 5), none, []⟩,
          ⟨some 17, .load none (.t 16), none, [0]⟩,
          ⟨some 18, .mov (.t 6), none, []⟩,
          ⟨some 19, .call false [] 68 [(.t 18)], none, [2]⟩,
          ⟨some 20, .build [.string ⟨#[]⟩, .int .i64 0, .int .i64 0, .string ⟨#[]⟩] [(0, 1, (.t 19)), (1, 1, (.c (.int .i64 0))), (2, 1, (.c (.int .i64 1)))], none, [3]⟩,
          ⟨some 21, .bslice false 4 [.string ⟨#[]⟩, .int .i64 0, .int .i64 0, .string ⟨#[]⟩] 1 [(0, (.t 20))], none, [4]⟩,
          ⟨some 22, .app 4 (.t 17) (.t 21), none, [1, 5, 3]⟩,
          ⟨some 23, .fa 2 (.t 5), none, [0, 1, 2, 3, 4, 5, 6]⟩,
          ⟨none, .store 1 (.t 23) (.t 22), none, [7, 6, 6, 0, 1, 2, 3, 4, 5, 6]⟩] true))
      (.region [
        ⟨some 14, .mov (.t 6), none, []⟩,
        ⟨some 15, .bin .int .add (.t 14) (.c (.int .i64 1)), none, []⟩,
        ⟨some 6, .mov (.t 15), none, []⟩] false))))))
  (.seq (.region [
    ⟨some 24, .load (some 3) (.t 5), none, []⟩,
    ⟨none, .store 3 (.t 4) (.t 24), none, []⟩] false)
  (.ret))))
def f50 : AFunc := { np := 2, nt := 25, res := [.cell 4 (some 3)], muts := [], own := false, body := b50 }

/- tallyhall/outline.Right -/
def b51 : ACode :=
  .seq (.region [
    ⟨some 1, .box (.t 0), none, []⟩,
    ⟨some 2, .mov (.c (.nilIface)), none, []⟩] false)
  (.seq (.region [
    ⟨some 7, .load (some 1) (.t 1), none, []⟩,
    ⟨some 8, .call false [] 14 [(.t 7)], none, []⟩,
    ⟨some 6, .mov (.t 8), none, []⟩,
    ⟨some 9, .ext (.t 6) 0, none, []⟩,
    ⟨some 10, .ext (.t 6) 1, none, []⟩,
    ⟨some 11, .ext (.t 6) 2, none, []⟩,
    ⟨some 3, .mov (.t 9), none, []⟩,
    ⟨some 4, .mov (.t 10), none, []⟩,
    ⟨some 5, .mov (.t 11), none, []⟩] false)
  (.seq (.region [
    ⟨some 12, .mov (.t 5), none, []⟩,
    ⟨some 2, .mov (.t 12), none, []⟩] false)
  (.ret)))
def f51 : AFunc := { np := 1, nt := 13, res := [.tmp 2], muts := [], own := false, body := b51 }

/- tallyhall/cell.Check -/
def b52 : ACode :=
  .seq (.region [
    ⟨some 1, .box (.t 0), none, []⟩,
    ⟨some 2, .mov (.c (.nilIface)), none, []⟩] false)
  (.seq (.seq (.region [
    ⟨some 3, .fa 0 (.t 1), none, []⟩,
    ⟨some 4, .load none (.t 3), none, []⟩,
    ⟨some 5, .bin .int .lss (.t 4) (.c (.int .i64 0)), none, []⟩,
    ⟨some 6, .mov (.t 5), none, []⟩,
    ⟨some 7, .fa 0 (.t 1), (some (6, false)), []⟩,
    ⟨some 8, .load none (.t 7), (some (6, false)), []⟩,
    ⟨some 9, .bin .int .gtr (.t 8) (.c (.int .i64 2)), (some (6, false)), []⟩,
    ⟨some 10, .pick (.t 6) (.c (.bool true)) (.t 9), none, []⟩,
    ⟨some 11, .mov (.t 10), none, []⟩,
    ⟨some 12, .fa 1 (.t 1), (some (11, false)), []⟩,
    ⟨some 13, .load none (.t 12), (some (11, false)), []⟩,
    ⟨some 14, .call false [] 30 [(.t 13)], (some (11, false)), []⟩,
    ⟨some 15, .un .not (.t 14), (some (11, false)), []⟩,
    ⟨some 16, .pick (.t 11) (.c (.bool true)) (.t 15), none, []⟩,
    ⟨some 17, .mov (.t 16), none, []⟩,
    ⟨some 18, .fa 0 (.t 1), (some (17, false)), []⟩,
    ⟨some 19, .load none (.t 18), (some (17, false)), []⟩,
    ⟨some 20, .bin .int .neq (.t 19) (.c (.int .i64 1)), (some (17, false)), []⟩,
    ⟨some 21, .mov (.t 20), (some (17, false)), []⟩,
    ⟨some 22, .fa 1 (.t 1), (some (21, true)), []⟩,
    ⟨some 23, .load none (.t 22), (some (21, true)), []⟩,
    ⟨some 24, .bin .int .neq (.t 23) (.c (.int .i64 0)), (some (21, true)), []⟩,
    ⟨some 25, .pick (.t 21) (.t 24) (.c (.bool false)), (some (17, false)), []⟩,
    ⟨some 26, .pick (.t 17) (.c (.bool true)) (.t 25), none, []⟩] false)
  (.cond (.t 26)
    (.seq (.region [
      ⟨some 27, .ifc 1 (.c (.int .i64 1)), none, []⟩,
      ⟨some 2, .mov (.t 27), none, []⟩] false)
    (.ret))
    (.skip)))
  (.seq (.region [
    ⟨some 2, .mov (.c (.nilIface)), none, []⟩] false)
  (.ret)))
def f52 : AFunc := { np := 1, nt := 28, res := [.tmp 2], muts := [], own := false, body := b52 }

/- tallyhall/fold.once -/
def b54 : ACode :=
  .seq (.region [
    ⟨some 3, .box (.t 0), none, []⟩] false)
  (.seq (.region [
    ⟨some 15, .fa 0 (.t 3), none, []⟩,
    ⟨some 16, .load none (.t 15), none, []⟩,
    ⟨some 17, .mov (.t 2), none, []⟩,
    ⟨some 18, .ia 3 (.t 16) (.t 17), none, []⟩,
    ⟨some 19, .load (some 3) (.t 18), none, []⟩,
    ⟨some 6, .alloc [.string ⟨#[]⟩, .int .i64 0, .slice none 0 0], none, []⟩,
    ⟨none, .store 3 (.t 6) (.t 19), none, []⟩] false)
  (.seq (.region [
    ⟨some 20, .fa 2 (.t 6), none, []⟩,
    ⟨some 21, .load none (.t 20), none, []⟩,
    ⟨some 22, .len false (.t 21), none, []⟩,
    ⟨some 23, .bin .int .sub (.t 22) (.c (.int .i64 1)), none, []⟩,
    ⟨some 7, .mov (.t 23), none, []⟩] false)
  (.block 0 (.loop (.seq (.seq (.region [
        ⟨some 24, .mov (.t 7), none, []⟩,
        ⟨some 25, .bin .int .geq (.t 24) (.c (.int .i64 0)), none, []⟩] false)
      (.cond (.t 25)
        (.skip)
        (.exit 0)))
      (.seq (.block 1 (.seq (.region [
          ⟨some 28, .load (some 3) (.t 6), none, []⟩,
          ⟨some 29, .mov (.t 7), none, []⟩,
          ⟨some 30, .call true [] 47 [(.t 28), (.t 29)], none, []⟩,
          ⟨some 8, .mov (.t 30), none, []⟩] false)
        (.seq (.seq (.region [
          ⟨some 31, .mov (.t 8), none, []⟩,
          ⟨some 32, .len false (.t 31), none, []⟩,
          ⟨some 33, .bin .int .eql (.t 32) (.c (.int .i64 0)), none, []⟩] false)
        (.cond (.t 33)
          (.exit 1)
          (.skip)))
        (.seq (.region [
          ⟨some 34, .mov (.t 1), none, []⟩,
          ⟨some 35, .len false (.t 34), none, []⟩,
          ⟨some 36, .mov (.c (.int .i64 0)), none, []⟩] false)
        (.block 2 (.loop (.seq (.region [
              ⟨some 37, .bin .int .lss (.t 36) (.t 35), none, []⟩] false)
            (.seq (.cond (.t 37)
              (.skip)
              (.exit 2))
            (.seq (.block 3 (.seq (.region [
                ⟨some 38, .mov (.t 36), none, []⟩,
                ⟨some 9, .mov (.t 38), none, []⟩] false)
              (.seq (.region [
                ⟨some 39, .load (some 1) (.t 3), none, []⟩,
                ⟨some 40, .mov (.t 9), none, []⟩,
                ⟨some 41, .call true [] 69 [(.t 39), (.t 40)], none, []⟩,
                ⟨some 10, .mov (.t 41), none, []⟩] false)
              (.seq (.seq (.region [
                ⟨some 42, .mov (.t 10), none, []⟩,
                ⟨some 43, .mov (.t 2), none, []⟩,
                ⟨some 44, .ia 1 (.t 42) (.t 43), none, []⟩,
                ⟨some 45, .load none (.t 44), none, []⟩,
                ⟨some 46, .mov (.t 7), none, []⟩,
                ⟨some 47, .bin .int .neq (.t 45) (.t 46), none, []⟩] false)
              (.cond (.t 47)
                (.exit 3)
                (.skip)))
              (.seq (.region [
                ⟨some 11, .alloc [.int .i64 0, .int .i64 0], none, []⟩] false)
              (.seq (.seq (.region [
                ⟨some 48, .mov (.t 8), none, []⟩,
                ⟨some 49, .len false (.t 48), none, []⟩,
                ⟨some 50, .mov (.c (.int .i64 0)), none, []⟩] false)
              (.block 4 (.loop (.seq (.region [
                    ⟨some 51, .bin .int .lss (.t 50) (.t 49), none, []⟩] false)
                  (.seq (.cond (.t 51)
                    (.skip)
                    (.exit 4))
                  (.seq (.block 5 (.seq (.region [
                      ⟨some 52, .ia 1 (.t 48) (.t 50), none, []⟩,
                      ⟨some 53, .load none (.t 52), none, []⟩,
                      ⟨some 13, .mov (.t 53), none, []⟩] false)
                    (.seq (.region [
                      ⟨some 54, .fa 2 (.t 6), none, []⟩,
                      ⟨some 55, .load none (.t 54), none, []⟩,
                      ⟨some 56, .mov (.t 13), none, []⟩,
                      ⟨some 57, .ia 4 (.t 55) (.t 56), none, []⟩,
                      ⟨some 58, .fa 2 (.t 57), none, []⟩,
                      ⟨some 59, .load none (.t 58), none, []⟩,
                      ⟨some 14, .mov (.t 59), none, []⟩] false)
                    (.seq (.region [
                      ⟨some 60, .mov (.t 14), none, []⟩,
                      ⟨some 61, .bin .int .neq (.t 60) (.c (.int .i64 0)), none, []⟩] false)
                    (.cond (.t 61)
                      (.region [
                        ⟨some 62, .load (some 2) (.t 11), none, []⟩,
                        ⟨some 63, .mov (.t 1), none, []⟩,
                        ⟨some 64, .load (some 1) (.t 3), none, []⟩,
                        ⟨some 65, .mov (.t 10), none, []⟩,
                        ⟨some 66, .mov (.t 2), none, []⟩,
                        ⟨some 67, .mov (.t 13), none, []⟩,
                        ⟨some 68, .call true [] 70 [(.t 65), (.t 66), (.t 67)], none, [3, 4, 5]⟩,
                        ⟨some 69, .call false [] 49 [(.t 64), (.t 68)], none, [2, 6, 6]⟩,
                        ⟨some 70, .ia 2 (.t 63) (.t 69), none, [1, 7]⟩,
                        ⟨some 71, .load (some 2) (.t 70), none, [8]⟩,
                        ⟨some 72, .mov (.t 14), none, []⟩,
                        ⟨some 73, .call false [] 33 [(.t 62), (.t 71), (.t 72)], none, [0, 9, 10, 7]⟩,
                        ⟨none, .store 2 (.t 11) (.t 73), none, [11, 11, 0, 1, 2, 3, 4, 5, 6, 7, 8, 9, 10, 11]⟩] true)
                      (.skip))))))
                  (.region [
                    ⟨some 74, .bin .int .add (.t 50) (.c (.int .i64 1)), none, []⟩,
                    ⟨some 50, .mov (.t 74), none, []⟩] false)))))))
              (.region [
                ⟨some 75, .mov (.t 1), none, []⟩,
                ⟨some 76, .mov (.t 9), none, []⟩,
                ⟨some 77, .load (some 2) (.t 11), none, []⟩,
                ⟨some 78, .ia 2 (.t 75) (.t 76), none, []⟩,
                ⟨none, .store 2 (.t 78) (.t 77), none, []⟩] false)))))))
            (.region [
              ⟨some 79, .bin .int .add (.t 36) (.c (.int .i64 1)), none, []⟩,
              ⟨some 36, .mov (.t 79), none, []⟩] false))))))))))
      (.region [
        ⟨some 26, .mov (.t 7), none, []⟩,
        ⟨some 27, .bin .int .sub (.t 26) (.c (.int .i64 1)), none, []⟩,
        ⟨some 7, .mov (.t 27), none, []⟩] false)))))))
def f54 : AFunc := { np := 3, nt := 80, res := [], muts := [], own := false, body := b54 }

/- tallyhall/input.one -/
def b55 : ACode :=
  .seq (.region [
    ⟨some 3, .box (.t 0), none, []⟩,
    ⟨some 5, .box (.t 2), none, []⟩,
    ⟨some 6, .mov (.c (.slice none 0 0)), none, []⟩,
    ⟨some 7, .mov (.c (.nilIface)), none, []⟩] false)
  (.seq (.seq (.region [
    ⟨some 9, .load (some 1) (.t 3), none, []⟩,
    ⟨some 10, .mov (.t 1), none, []⟩,
    ⟨some 11, .call false [] 27 [(.t 9), (.t 10)], none, []⟩,
    ⟨some 8, .mov (.t 11), none, []⟩] false)
  (.seq (.region [
    ⟨some 12, .mov (.t 8), none, []⟩,
    ⟨some 13, .eqn false true (.t 12), none, []⟩] false)
  (.cond (.t 13)
    (.seq (.region [
      ⟨some 14, .mov (.t 8), none, []⟩,
      ⟨some 6, .mov (.c (.slice none 0 0)), none, []⟩,
      ⟨some 7, .mov (.t 14), none, []⟩] false)
    (.ret))
    (.skip))))
  (.seq (.region [
    ⟨some 15, .load (some 1) (.t 3), none, []⟩,
    ⟨some 16, .mov (.t 1), none, []⟩,
    ⟨some 17, .call true [] 72 [(.t 16)], none, [1]⟩,
    ⟨some 18, .load (some 3) (.t 5), none, []⟩,
    ⟨some 19, .call true [] 71 [(.t 15), (.t 17), (.t 18)], none, [0, 2, 3, 2]⟩,
    ⟨some 20, .ext (.t 19) 0, none, [4]⟩,
    ⟨some 21, .ext (.t 19) 1, none, [4]⟩,
    ⟨some 6, .mov (.t 20), none, [5, 4, 0, 1, 2, 3, 4, 5, 6]⟩,
    ⟨some 7, .mov (.t 21), none, [6, 7, 0, 1, 2, 3, 4, 5, 6, 7]⟩] true)
  (.ret)))
def f55 : AFunc := { np := 3, nt := 22, res := [.tmp 6, .tmp 7], muts := [], own := false, body := b55 }

/- tallyhall/input.ready -/
def b56 : ACode :=
  .seq (.region [
    ⟨some 3, .box (.t 0), none, []⟩,
    ⟨some 6, .mov (.c (.nilIface)), none, []⟩] false)
  (.seq (.seq (.region [
    ⟨some 8, .load (some 1) (.t 3), none, []⟩,
    ⟨some 9, .mov (.t 1), none, []⟩,
    ⟨some 10, .call false [] 27 [(.t 8), (.t 9)], none, []⟩,
    ⟨some 7, .mov (.t 10), none, []⟩] false)
  (.seq (.region [
    ⟨some 11, .mov (.t 7), none, []⟩,
    ⟨some 12, .eqn false true (.t 11), none, []⟩] false)
  (.cond (.t 12)
    (.seq (.region [
      ⟨some 13, .mov (.t 7), none, []⟩,
      ⟨some 6, .mov (.t 13), none, []⟩] false)
    (.ret))
    (.skip))))
  (.seq (.region [
    ⟨some 14, .load (some 1) (.t 3), none, []⟩,
    ⟨some 15, .mov (.t 2), none, []⟩,
    ⟨some 16, .call false [] 58 [(.t 14), (.t 15)], none, []⟩,
    ⟨some 6, .mov (.t 16), none, []⟩] false)
  (.ret)))
def f56 : AFunc := { np := 3, nt := 17, res := [.tmp 6], muts := [], own := false, body := b56 }

/- tallyhall/input.At -/
def b57 : ACode :=
  .seq (.region [
    ⟨some 4, .alloc [.int .i64 0, .int .i64 0], none, []⟩] false)
  (.seq (.region [
    ⟨some 8, .mov (.t 0), none, []⟩,
    ⟨some 9, .mov (.t 1), none, []⟩,
    ⟨some 10, .call false [] 73 [(.t 8), (.t 9)], none, []⟩,
    ⟨some 7, .mov (.t 10), none, []⟩,
    ⟨some 11, .ext (.t 7) 0, none, []⟩,
    ⟨some 12, .ext (.t 7) 1, none, []⟩,
    ⟨some 5, .mov (.t 11), none, []⟩,
    ⟨some 6, .mov (.t 12), none, []⟩] false)
  (.seq (.seq (.region [
    ⟨some 13, .mov (.t 6), none, []⟩,
    ⟨some 14, .un .not (.t 13), none, []⟩] false)
  (.cond (.t 14)
    (.seq (.region [
      ⟨some 15, .build [.int .i64 0, .int .i64 0] [], none, []⟩,
      ⟨none, .store 2 (.t 4) (.t 15), none, []⟩] false)
    (.ret))
    (.skip)))
  (.seq (.region [
    ⟨some 16, .mov (.t 0), none, []⟩,
    ⟨some 17, .mov (.t 5), none, []⟩,
    ⟨some 18, .ia 2 (.t 16) (.t 17), none, []⟩,
    ⟨some 19, .fa 1 (.t 18), none, []⟩,
    ⟨some 20, .load none (.t 19), none, []⟩,
    ⟨some 21, .build [.int .i64 0, .int .i64 0] [(0, 1, (.c (.int .i64 1))), (1, 1, (.t 20))], none, []⟩,
    ⟨none, .store 2 (.t 4) (.t 21), none, []⟩] false)
  (.ret))))
def f57 : AFunc := { np := 2, nt := 22, res := [.cell 4 (some 2)], muts := [], own := false, body := b57 }

/- tallyhall/place.Fits -/
def b58 : ACode :=
  .seq (.region [
    ⟨some 2, .box (.t 0), none, []⟩,
    ⟨some 4, .mov (.c (.nilIface)), none, []⟩] false)
  (.seq (.seq (.region [
    ⟨some 7, .mov (.t 1), none, []⟩,
    ⟨some 8, .len false (.t 7), none, []⟩,
    ⟨some 9, .fa 0 (.t 2), none, []⟩,
    ⟨some 10, .load none (.t 9), none, []⟩,
    ⟨some 11, .len false (.t 10), none, []⟩,
    ⟨some 12, .bin .int .neq (.t 8) (.t 11), none, []⟩] false)
  (.cond (.t 12)
    (.seq (.region [
      ⟨some 13, .ifc 1 (.c (.int .i64 3)), none, []⟩,
      ⟨some 4, .mov (.t 13), none, []⟩] false)
    (.ret))
    (.skip)))
  (.seq (.seq (.region [
    ⟨some 14, .mov (.t 1), none, []⟩,
    ⟨some 15, .len false (.t 14), none, []⟩,
    ⟨some 16, .mov (.c (.int .i64 0)), none, []⟩] false)
  (.block 0 (.loop (.seq (.region [
        ⟨some 17, .bin .int .lss (.t 16) (.t 15), none, []⟩] false)
      (.seq (.cond (.t 17)
        (.skip)
        (.exit 0))
      (.seq (.block 1 (.seq (.region [
          ⟨some 18, .mov (.t 16), none, []⟩,
          ⟨some 19, .ia 1 (.t 14) (.t 16), none, []⟩,
          ⟨some 20, .load none (.t 19), none, []⟩,
          ⟨some 5, .mov (.t 18), none, []⟩,
          ⟨some 6, .mov (.t 20), none, []⟩] false)
        (.seq (.region [
          ⟨some 21, .mov (.t 6), none, []⟩,
          ⟨some 22, .bin .int .lss (.t 21) (.c (.int .i64 0)), none, []⟩,
          ⟨some 23, .mov (.t 22), none, []⟩,
          ⟨some 24, .mov (.t 6), (some (23, false)), []⟩,
          ⟨some 25, .fa 0 (.t 2), (some (23, false)), []⟩,
          ⟨some 26, .load none (.t 25), (some (23, false)), []⟩,
          ⟨some 27, .mov (.t 5), (some (23, false)), []⟩,
          ⟨some 28, .ia 3 (.t 26) (.t 27), (some (23, false)), []⟩,
          ⟨some 29, .fa 2 (.t 28), (some (23, false)), []⟩,
          ⟨some 30, .load none (.t 29), (some (23, false)), []⟩,
          ⟨some 31, .len false (.t 30), (some (23, false)), []⟩,
          ⟨some 32, .bin .int .geq (.t 24) (.t 31), (some (23, false)), []⟩,
          ⟨some 33, .pick (.t 23) (.c (.bool true)) (.t 32), none, []⟩] false)
        (.cond (.t 33)
          (.seq (.region [
            ⟨some 34, .ifc 1 (.c (.int .i64 1)), none, []⟩,
            ⟨some 4, .mov (.t 34), none, []⟩] false)
          (.ret))
          (.skip)))))
      (.region [
        ⟨some 35, .bin .int .add (.t 16) (.c (.int .i64 1)), none, []⟩,
        ⟨some 16, .mov (.t 35), none, []⟩] false)))))))
  (.seq (.region [
    ⟨some 4, .mov (.c (.nilIface)), none, []⟩] false)
  (.ret))))
def f58 : AFunc := { np := 2, nt := 36, res := [.tmp 4], muts := [], own := false, body := b58 }

/- tallyhall/place.IsLeaf -/
def b59 : ACode :=
  .seq (.region [
    ⟨some 2, .box (.t 0), none, []⟩,
    ⟨some 4, .mov (.c (.bool false)), none, []⟩] false)
  (.seq (.seq (.region [
    ⟨some 7, .mov (.t 1), none, []⟩,
    ⟨some 8, .len false (.t 7), none, []⟩,
    ⟨some 9, .mov (.c (.int .i64 0)), none, []⟩] false)
  (.block 0 (.loop (.seq (.region [
        ⟨some 10, .bin .int .lss (.t 9) (.t 8), none, []⟩] false)
      (.seq (.cond (.t 10)
        (.skip)
        (.exit 0))
      (.seq (.block 1 (.seq (.region [
          ⟨some 11, .mov (.t 9), none, []⟩,
          ⟨some 12, .ia 1 (.t 7) (.t 9), none, []⟩,
          ⟨some 13, .load none (.t 12), none, []⟩,
          ⟨some 5, .mov (.t 11), none, []⟩,
          ⟨some 6, .mov (.t 13), none, []⟩] false)
        (.seq (.region [
          ⟨some 14, .fa 0 (.t 2), none, []⟩,
          ⟨some 15, .load none (.t 14), none, []⟩,
          ⟨some 16, .mov (.t 5), none, []⟩,
          ⟨some 17, .ia 3 (.t 15) (.t 16), none, []⟩,
          ⟨some 18, .load (some 3) (.t 17), none, []⟩,
          ⟨some 19, .mov (.t 6), none, []⟩,
          ⟨some 20, .call false [] 44 [(.t 18), (.t 19)], none, []⟩,
          ⟨some 21, .un .not (.t 20), none, []⟩] false)
        (.cond (.t 21)
          (.seq (.region [
            ⟨some 4, .mov (.c (.bool false)), none, []⟩] false)
          (.ret))
          (.skip)))))
      (.region [
        ⟨some 22, .bin .int .add (.t 9) (.c (.int .i64 1)), none, []⟩,
        ⟨some 9, .mov (.t 22), none, []⟩] false)))))))
  (.seq (.region [
    ⟨some 4, .mov (.c (.bool true)), none, []⟩] false)
  (.ret)))
def f59 : AFunc := { np := 2, nt := 23, res := [.tmp 4], muts := [], own := false, body := b59 }

/- tallyhall/input.value -/
def b60 : ACode :=
  .seq (.region [
    ⟨some 2, .mov (.c (.bool false)), none, []⟩] false)
  (.seq (.region [
    ⟨some 3, .mov (.t 0), none, []⟩,
    ⟨some 4, .bin .int .geq (.t 3) (.c (.int .i64 (-1000000))), none, []⟩,
    ⟨some 5, .mov (.t 4), none, []⟩,
    ⟨some 6, .mov (.t 0), (some (5, true)), []⟩,
    ⟨some 7, .bin .int .leq (.t 6) (.c (.int .i64 1000000)), (some (5, true)), []⟩,
    ⟨some 8, .pick (.t 5) (.t 7) (.c (.bool false)), none, []⟩,
    ⟨some 2, .mov (.t 8), none, []⟩] false)
  (.ret))
def f60 : AFunc := { np := 1, nt := 9, res := [.tmp 2], muts := [], own := false, body := b60 }

/- tallyhall/input.order -/
def b61 : ACode :=
  .seq (.region [
    ⟨some 2, .box (.t 0), none, []⟩,
    ⟨some 3, .box (.t 1), none, []⟩,
    ⟨some 4, .mov (.c (.int .i64 0)), none, []⟩] false)
  (.seq (.region [
    ⟨some 5, .fa 0 (.t 2), none, []⟩,
    ⟨some 6, .load none (.t 5), none, []⟩,
    ⟨some 7, .fa 0 (.t 3), none, []⟩,
    ⟨some 8, .load none (.t 7), none, []⟩,
    ⟨some 9, .call false [] 74 [(.t 6), (.t 8)], none, []⟩,
    ⟨some 4, .mov (.t 9), none, []⟩] false)
  (.ret))
def f61 : AFunc := { np := 2, nt := 10, res := [.tmp 4], muts := [], own := false, body := b61 }

/- tallyhall/cell.size -/
def b62 : ACode :=
  .seq (.region [
    ⟨some 2, .mov (.c (.int .i64 0)), none, []⟩] false)
  (.seq (.region [
    ⟨some 3, .mov (.t 0), none, []⟩,
    ⟨some 4, .mov (.t 0), none, []⟩,
    ⟨some 5, .un .neg (.t 4), none, []⟩,
    ⟨some 6, .max2 (.t 3) (.t 5), none, []⟩,
    ⟨some 2, .mov (.t 6), none, []⟩] false)
  (.ret))
def f62 : AFunc := { np := 1, nt := 7, res := [.tmp 2], muts := [], own := false, body := b62 }

/- slices.IndexFunc[[]tallyhall/api.Member,tallyhall/api.Member] -/
def b63 : ACode :=
  .seq (.region [
    ⟨some 4, .mov (.c (.int .i64 0)), none, []⟩] false)
  (.seq (.seq (.region [
    ⟨some 6, .mov (.t 0), none, []⟩,
    ⟨some 7, .len false (.t 6), none, []⟩,
    ⟨some 8, .mov (.c (.int .i64 0)), none, []⟩] false)
  (.block 0 (.loop (.seq (.region [
        ⟨some 9, .bin .int .lss (.t 8) (.t 7), none, []⟩] false)
      (.seq (.cond (.t 9)
        (.skip)
        (.exit 0))
      (.seq (.block 1 (.seq (.region [
          ⟨some 10, .mov (.t 8), none, []⟩,
          ⟨some 5, .mov (.t 10), none, []⟩] false)
        (.seq (.region [
          ⟨some 11, .mov (.t 1), none, []⟩,
          ⟨some 12, .mov (.t 0), none, []⟩,
          ⟨some 13, .mov (.t 5), none, []⟩,
          ⟨some 14, .ia 4 (.t 12) (.t 13), none, []⟩,
          ⟨some 15, .load (some 4) (.t 14), none, []⟩,
          ⟨some 16, .calld false (.t 11) [(.t 15)], none, []⟩] false)
        (.cond (.t 16)
          (.seq (.region [
            ⟨some 17, .mov (.t 5), none, []⟩,
            ⟨some 4, .mov (.t 17), none, []⟩] false)
          (.ret))
          (.skip)))))
      (.region [
        ⟨some 18, .bin .int .add (.t 8) (.c (.int .i64 1)), none, []⟩,
        ⟨some 8, .mov (.t 18), none, []⟩] false)))))))
  (.seq (.region [
    ⟨some 4, .mov (.c (.int .i64 (-1))), none, []⟩] false)
  (.ret)))
def f63 : AFunc := { np := 2, nt := 19, res := [.tmp 4], muts := [], own := false, body := b63 }

/- tallyhall/outline.Where lit 1 -/
def b64 : ACode :=
  .seq (.region [
    ⟨some 2, .box (.t 0), none, []⟩,
    ⟨some 3, .mov (.c (.bool false)), none, []⟩] false)
  (.seq (.region [
    ⟨some 4, .fa 0 (.t 2), none, []⟩,
    ⟨some 5, .load none (.t 4), none, []⟩,
    ⟨some 6, .load none (.t 1), none, []⟩,
    ⟨some 7, .bin .str .eql (.t 5) (.t 6), none, []⟩,
    ⟨some 3, .mov (.t 7), none, []⟩] false)
  (.ret))
def f64 : AFunc := { np := 2, nt := 8, res := [.tmp 3], muts := [], own := false, body := b64 }

/- slices.IndexFunc[[]tallyhall/api.Dim,tallyhall/api.Dim] -/
def b65 : ACode :=
  .seq (.region [
    ⟨some 4, .mov (.c (.int .i64 0)), none, []⟩] false)
  (.seq (.seq (.region [
    ⟨some 6, .mov (.t 0), none, []⟩,
    ⟨some 7, .len false (.t 6), none, []⟩,
    ⟨some 8, .mov (.c (.int .i64 0)), none, []⟩] false)
  (.block 0 (.loop (.seq (.region [
        ⟨some 9, .bin .int .lss (.t 8) (.t 7), none, []⟩] false)
      (.seq (.cond (.t 9)
        (.skip)
        (.exit 0))
      (.seq (.block 1 (.seq (.region [
          ⟨some 10, .mov (.t 8), none, []⟩,
          ⟨some 5, .mov (.t 10), none, []⟩] false)
        (.seq (.region [
          ⟨some 11, .mov (.t 1), none, []⟩,
          ⟨some 12, .mov (.t 0), none, []⟩,
          ⟨some 13, .mov (.t 5), none, []⟩,
          ⟨some 14, .ia 3 (.t 12) (.t 13), none, []⟩,
          ⟨some 15, .load (some 3) (.t 14), none, []⟩,
          ⟨some 16, .calld false (.t 11) [(.t 15)], none, []⟩] false)
        (.cond (.t 16)
          (.seq (.region [
            ⟨some 17, .mov (.t 5), none, []⟩,
            ⟨some 4, .mov (.t 17), none, []⟩] false)
          (.ret))
          (.skip)))))
      (.region [
        ⟨some 18, .bin .int .add (.t 8) (.c (.int .i64 1)), none, []⟩,
        ⟨some 8, .mov (.t 18), none, []⟩] false)))))))
  (.seq (.region [
    ⟨some 4, .mov (.c (.int .i64 (-1))), none, []⟩] false)
  (.ret)))
def f65 : AFunc := { np := 2, nt := 19, res := [.tmp 4], muts := [], own := false, body := b65 }

/- slices.ContainsFunc[[]byte,byte] -/
def b66 : ACode :=
  .seq (.region [
    ⟨some 4, .mov (.c (.bool false)), none, []⟩] false)
  (.seq (.region [
    ⟨some 5, .mov (.t 0), none, []⟩,
    ⟨some 6, .mov (.t 1), none, []⟩,
    ⟨some 7, .call false [] 75 [(.t 5), (.t 6)], none, []⟩,
    ⟨some 8, .bin .int .geq (.t 7) (.c (.int .i64 0)), none, []⟩,
    ⟨some 4, .mov (.t 8), none, []⟩] false)
  (.ret))
def f66 : AFunc := { np := 2, nt := 9, res := [.tmp 4], muts := [], own := false, body := b66 }

/- tallyhall/outline.Name lit 1 -/
def b67 : ACode :=
  .seq (.region [
    ⟨some 2, .mov (.c (.bool false)), none, []⟩] false)
  (.seq (.region [
    ⟨some 3, .mov (.t 0), none, []⟩,
    ⟨some 4, .bin .int .lss (.t 3) (.c (.int .u8 97)), none, []⟩,
    ⟨some 5, .mov (.t 4), none, []⟩,
    ⟨some 6, .mov (.t 0), (some (5, false)), []⟩,
    ⟨some 7, .bin .int .gtr (.t 6) (.c (.int .u8 122)), (some (5, false)), []⟩,
    ⟨some 8, .pick (.t 5) (.c (.bool true)) (.t 7), none, []⟩,
    ⟨some 2, .mov (.t 8), none, []⟩] false)
  (.ret))
def f67 : AFunc := { np := 1, nt := 9, res := [.tmp 2], muts := [], own := false, body := b67 }

/- tallyhall/tallylaw4.letters -/
def b68 : ACode :=
  .seq (.region [
    ⟨some 2, .mov (.c (.string ⟨#[]⟩)), none, []⟩] false)
  (.seq (.region [
    ⟨some 5, .mov (.t 0), none, []⟩,
    ⟨some 6, .bin .int .quo (.t 5) (.c (.int .i64 26)), none, []⟩,
    ⟨some 7, .bin .int .rem (.t 6) (.c (.int .i64 26)), none, []⟩,
    ⟨some 3, .mov (.t 7), none, []⟩] false)
  (.seq (.region [
    ⟨some 8, .mov (.t 0), none, []⟩,
    ⟨some 9, .bin .int .rem (.t 8) (.c (.int .i64 26)), none, []⟩,
    ⟨some 4, .mov (.t 9), none, []⟩] false)
  (.seq (.region [
    ⟨some 10, .mov (.t 3), none, []⟩,
    ⟨some 11, .mov (.t 3), none, []⟩,
    ⟨some 12, .bin .int .add (.t 11) (.c (.int .i64 1)), none, [1]⟩,
    ⟨some 13, .slc 0 (.c (.string ⟨#[97, 98, 99, 100, 101, 102, 103, 104, 105, 106, 107, 108, 109, 110, 111, 112, 113, 114, 115, 116, 117, 118, 119, 120, 121, 122]⟩)) (some (.t 10)) (some (.t 12)), none, [0, 2]⟩,
    ⟨some 14, .mov (.t 4), none, []⟩,
    ⟨some 15, .mov (.t 4), none, []⟩,
    ⟨some 16, .bin .int .add (.t 15) (.c (.int .i64 1)), none, [5]⟩,
    ⟨some 17, .slc 0 (.c (.string ⟨#[97, 98, 99, 100, 101, 102, 103, 104, 105, 106, 107, 108, 109, 110, 111, 112, 113, 114, 115, 116, 117, 118, 119, 120, 121, 122]⟩)) (some (.t 14)) (some (.t 16)), none, [4, 6]⟩,
    ⟨some 18, .bin .str .add (.t 13) (.t 17), none, [3, 7]⟩,
    ⟨some 2, .mov (.t 18), none, [8, 0, 1, 2, 3, 4, 5, 6, 7, 8]⟩] true)
  (.ret))))
def f68 : AFunc := { np := 1, nt := 19, res := [.tmp 2], muts := [], own := false, body := b68 }

/- tallyhall/place.At -/
def b69 : ACode :=
  .seq (.region [
    ⟨some 2, .box (.t 0), none, []⟩,
    ⟨some 4, .mov (.c (.slice none 0 0)), none, []⟩] false)
  (.seq (.region [
    ⟨some 8, .fa 0 (.t 2), none, []⟩,
    ⟨some 9, .load none (.t 8), none, []⟩,
    ⟨some 10, .len false (.t 9), none, []⟩,
    ⟨some 11, .mksl 1 [.int .i64 0] (.t 10) (.t 10), none, []⟩,
    ⟨some 5, .mov (.t 11), none, []⟩] false)
  (.seq (.seq (.region [
    ⟨some 12, .mov (.t 5), none, []⟩,
    ⟨some 13, .len false (.t 12), none, []⟩,
    ⟨some 14, .bin .int .sub (.t 13) (.c (.int .i64 1)), none, []⟩,
    ⟨some 6, .mov (.t 14), none, []⟩] false)
  (.block 0 (.loop (.seq (.seq (.region [
        ⟨some 15, .mov (.t 6), none, []⟩,
        ⟨some 16, .bin .int .geq (.t 15) (.c (.int .i64 0)), none, []⟩] false)
      (.cond (.t 16)
        (.skip)
        (.exit 0)))
      (.seq (.block 1 (.seq (.region [
          ⟨some 19, .fa 0 (.t 2), none, []⟩,
          ⟨some 20, .load none (.t 19), none, []⟩,
          ⟨some 21, .mov (.t 6), none, []⟩,
          ⟨some 22, .ia 3 (.t 20) (.t 21), none, []⟩,
          ⟨some 23, .fa 2 (.t 22), none, []⟩,
          ⟨some 24, .load none (.t 23), none, []⟩,
          ⟨some 25, .len false (.t 24), none, []⟩,
          ⟨some 7, .mov (.t 25), none, []⟩] false)
        (.seq (.region [
          ⟨some 26, .mov (.t 5), none, []⟩,
          ⟨some 27, .mov (.t 6), none, []⟩,
          ⟨some 28, .mov (.t 1), none, []⟩,
          ⟨some 29, .mov (.t 7), none, []⟩,
          ⟨some 30, .bin .int .rem (.t 28) (.t 29), none, []⟩,
          ⟨some 31, .ia 1 (.t 26) (.t 27), none, []⟩,
          ⟨none, .store 1 (.t 31) (.t 30), none, []⟩] false)
        (.region [
          ⟨some 32, .mov (.t 1), none, []⟩,
          ⟨some 33, .mov (.t 7), none, []⟩,
          ⟨some 34, .bin .int .quo (.t 32) (.t 33), none, []⟩,
          ⟨some 1, .mov (.t 34), none, []⟩] false))))
      (.region [
        ⟨some 17, .mov (.t 6), none, []⟩,
        ⟨some 18, .bin .int .sub (.t 17) (.c (.int .i64 1)), none, []⟩,
        ⟨some 6, .mov (.t 18), none, []⟩] false))))))
  (.seq (.region [
    ⟨some 35, .mov (.t 5), none, []⟩,
    ⟨some 4, .mov (.t 35), none, []⟩] false)
  (.ret))))
def f69 : AFunc := { np := 2, nt := 36, res := [.tmp 4], muts := [], own := false, body := b69 }

/- tallyhall/place.With -/
def b70 : ACode :=
  .seq (.region [
    ⟨some 6, .mov (.c (.slice none 0 0)), none, []⟩] false)
  (.seq (.region [
    ⟨some 7, .mov (.t 0), none, []⟩,
    ⟨some 8, .call true [] 76 [(.t 7)], none, []⟩,
    ⟨some 0, .mov (.t 8), none, []⟩] false)
  (.seq (.region [
    ⟨some 9, .mov (.t 0), none, []⟩,
    ⟨some 10, .mov (.t 1), none, []⟩,
    ⟨some 11, .mov (.t 2), none, []⟩,
    ⟨some 12, .ia 1 (.t 9) (.t 10), none, []⟩,
    ⟨none, .store 1 (.t 12) (.t 11), none, []⟩] false)
  (.seq (.region [
    ⟨some 13, .mov (.t 0), none, []⟩,
    ⟨some 6, .mov (.t 13), none, []⟩] false)
  (.ret))))
def f70 : AFunc := { np := 3, nt := 14, res := [.tmp 6], muts := [], own := false, body := b70 }

/- tallyhall/input.Own -/
def b72 : ACode :=
  .seq (.region [
    ⟨some 2, .mov (.c (.slice none 0 0)), none, []⟩] false)
  (.seq (.region [
    ⟨some 5, .mov (.t 0), none, []⟩,
    ⟨some 6, .call true [] 79 [(.t 5)], none, []⟩,
    ⟨some 0, .mov (.t 6), none, []⟩] false)
  (.seq (.seq (.region [
    ⟨some 7, .mov (.t 0), none, []⟩,
    ⟨some 8, .len false (.t 7), none, []⟩,
    ⟨some 9, .mov (.c (.int .i64 0)), none, []⟩] false)
  (.block 0 (.loop (.seq (.region [
        ⟨some 10, .bin .int .lss (.t 9) (.t 8), none, []⟩] false)
      (.seq (.cond (.t 10)
        (.skip)
        (.exit 0))
      (.seq (.block 1 (.seq (.region [
          ⟨some 11, .mov (.t 9), none, []⟩,
          ⟨some 12, .ia 2 (.t 7) (.t 9), none, []⟩,
          ⟨some 13, .load (some 2) (.t 12), none, []⟩,
          ⟨some 4, .alloc [.slice none 0 0, .int .i64 0], none, []⟩,
          ⟨some 3, .mov (.t 11), none, []⟩,
          ⟨none, .store 2 (.t 4) (.t 13), none, []⟩] false)
        (.region [
          ⟨some 14, .mov (.t 0), none, []⟩,
          ⟨some 15, .mov (.t 3), none, []⟩,
          ⟨some 16, .fa 0 (.t 4), none, []⟩,
          ⟨some 17, .load none (.t 16), none, []⟩,
          ⟨some 18, .call true [] 76 [(.t 17)], none, []⟩,
          ⟨some 19, .ia 2 (.t 14) (.t 15), none, []⟩,
          ⟨some 20, .fa 0 (.t 19), none, []⟩,
          ⟨none, .store 1 (.t 20) (.t 18), none, []⟩] false)))
      (.region [
        ⟨some 21, .bin .int .add (.t 9) (.c (.int .i64 1)), none, []⟩,
        ⟨some 9, .mov (.t 21), none, []⟩] false)))))))
  (.seq (.region [
    ⟨some 22, .mov (.t 0), none, []⟩,
    ⟨some 2, .mov (.t 22), none, []⟩] false)
  (.ret))))
def f72 : AFunc := { np := 1, nt := 23, res := [.tmp 2], muts := [], own := false, body := b72 }

/- tallyhall/input.Find -/
def b73 : ACode :=
  .seq (.region [
    ⟨some 4, .mov (.c (.int .i64 0)), none, []⟩,
    ⟨some 5, .mov (.c (.bool false)), none, []⟩] false)
  (.seq (.region [
    ⟨some 6, .mov (.t 0), none, []⟩,
    ⟨some 7, .mov (.t 1), none, []⟩,
    ⟨some 8, .build [.slice none 0 0, .int .i64 0] [(0, 1, (.t 7))], none, []⟩,
    ⟨some 9, .call false [] 80 [(.t 6), (.t 8), (.f 61)], none, []⟩,
    ⟨some 10, .ext (.t 9) 0, none, []⟩,
    ⟨some 11, .ext (.t 9) 1, none, []⟩,
    ⟨some 4, .mov (.t 10), none, []⟩,
    ⟨some 5, .mov (.t 11), none, []⟩] false)
  (.ret))
def f73 : AFunc := { np := 2, nt := 12, res := [.tmp 4, .tmp 5], muts := [], own := false, body := b73 }

/- slices.Compare[tallyhall/api.Place,int] -/
def b74 : ACode :=
  .seq (.region [
    ⟨some 4, .mov (.c (.int .i64 0)), none, []⟩] false)
  (.seq (.seq (.region [
    ⟨some 9, .mov (.t 0), none, []⟩,
    ⟨some 10, .len false (.t 9), none, []⟩,
    ⟨some 11, .mov (.c (.int .i64 0)), none, []⟩] false)
  (.block 0 (.loop (.seq (.region [
        ⟨some 12, .bin .int .lss (.t 11) (.t 10), none, []⟩] false)
      (.seq (.cond (.t 12)
        (.skip)
        (.exit 0))
      (.seq (.block 1 (.seq (.region [
          ⟨some 13, .mov (.t 11), none, []⟩,
          ⟨some 14, .ia 1 (.t 9) (.t 11), none, []⟩,
          ⟨some 15, .load none (.t 14), none, []⟩,
          ⟨some 5, .mov (.t 13), none, []⟩,
          ⟨some 6, .mov (.t 15), none, []⟩] false)
        (.seq (.seq (.region [
          ⟨some 16, .mov (.t 5), none, []⟩,
          ⟨some 17, .mov (.t 1), none, []⟩,
          ⟨some 18, .len false (.t 17), none, []⟩,
          ⟨some 19, .bin .int .geq (.t 16) (.t 18), none, []⟩] false)
        (.cond (.t 19)
          (.seq (.region [
            ⟨some 4, .mov (.c (.int .i64 1)), none, []⟩] false)
          (.ret))
          (.skip)))
        (.seq (.region [
          ⟨some 20, .mov (.t 1), none, []⟩,
          ⟨some 21, .mov (.t 5), none, []⟩,
          ⟨some 22, .ia 1 (.t 20) (.t 21), none, []⟩,
          ⟨some 23, .load none (.t 22), none, []⟩,
          ⟨some 7, .mov (.t 23), none, []⟩] false)
        (.seq (.region [
          ⟨some 24, .mov (.t 6), none, []⟩,
          ⟨some 25, .mov (.t 7), none, []⟩,
          ⟨some 26, .call false [] 81 [(.t 24), (.t 25)], none, []⟩,
          ⟨some 8, .mov (.t 26), none, []⟩] false)
        (.seq (.region [
          ⟨some 27, .mov (.t 8), none, []⟩,
          ⟨some 28, .bin .int .neq (.t 27) (.c (.int .i64 0)), none, []⟩] false)
        (.cond (.t 28)
          (.seq (.region [
            ⟨some 29, .mov (.t 8), none, []⟩,
            ⟨some 4, .mov (.t 29), none, []⟩] false)
          (.ret))
          (.skip))))))))
      (.region [
        ⟨some 30, .bin .int .add (.t 11) (.c (.int .i64 1)), none, []⟩,
        ⟨some 11, .mov (.t 30), none, []⟩] false)))))))
  (.seq (.seq (.region [
    ⟨some 31, .mov (.t 0), none, []⟩,
    ⟨some 32, .len false (.t 31), none, []⟩,
    ⟨some 33, .mov (.t 1), none, []⟩,
    ⟨some 34, .len false (.t 33), none, []⟩,
    ⟨some 35, .bin .int .lss (.t 32) (.t 34), none, []⟩] false)
  (.cond (.t 35)
    (.seq (.region [
      ⟨some 4, .mov (.c (.int .i64 (-1))), none, []⟩] false)
    (.ret))
    (.skip)))
  (.seq (.region [
    ⟨some 4, .mov (.c (.int .i64 0)), none, []⟩] false)
  (.ret))))
def f74 : AFunc := { np := 2, nt := 36, res := [.tmp 4], muts := [], own := false, body := b74 }

/- slices.IndexFunc[[]byte,byte] -/
def b75 : ACode :=
  .seq (.region [
    ⟨some 4, .mov (.c (.int .i64 0)), none, []⟩] false)
  (.seq (.seq (.region [
    ⟨some 6, .mov (.t 0), none, []⟩,
    ⟨some 7, .len false (.t 6), none, []⟩,
    ⟨some 8, .mov (.c (.int .i64 0)), none, []⟩] false)
  (.block 0 (.loop (.seq (.region [
        ⟨some 9, .bin .int .lss (.t 8) (.t 7), none, []⟩] false)
      (.seq (.cond (.t 9)
        (.skip)
        (.exit 0))
      (.seq (.block 1 (.seq (.region [
          ⟨some 10, .mov (.t 8), none, []⟩,
          ⟨some 5, .mov (.t 10), none, []⟩] false)
        (.seq (.region [
          ⟨some 11, .mov (.t 1), none, []⟩,
          ⟨some 12, .mov (.t 0), none, []⟩,
          ⟨some 13, .mov (.t 5), none, []⟩,
          ⟨some 14, .ia 1 (.t 12) (.t 13), none, []⟩,
          ⟨some 15, .load none (.t 14), none, []⟩,
          ⟨some 16, .calld false (.t 11) [(.t 15)], none, []⟩] false)
        (.cond (.t 16)
          (.seq (.region [
            ⟨some 17, .mov (.t 5), none, []⟩,
            ⟨some 4, .mov (.t 17), none, []⟩] false)
          (.ret))
          (.skip)))))
      (.region [
        ⟨some 18, .bin .int .add (.t 8) (.c (.int .i64 1)), none, []⟩,
        ⟨some 8, .mov (.t 18), none, []⟩] false)))))))
  (.seq (.region [
    ⟨some 4, .mov (.c (.int .i64 (-1))), none, []⟩] false)
  (.ret)))
def f75 : AFunc := { np := 2, nt := 19, res := [.tmp 4], muts := [], own := false, body := b75 }

/- cmp.Compare[int] -/
def b81 : ACode :=
  .seq (.region [
    ⟨some 4, .mov (.c (.int .i64 0)), none, []⟩] false)
  (.seq (.region [
    ⟨some 7, .mov (.t 0), none, []⟩,
    ⟨some 8, .call false [] 84 [(.t 7)], none, []⟩,
    ⟨some 5, .mov (.t 8), none, []⟩] false)
  (.seq (.region [
    ⟨some 9, .mov (.t 1), none, []⟩,
    ⟨some 10, .call false [] 84 [(.t 9)], none, []⟩,
    ⟨some 6, .mov (.t 10), none, []⟩] false)
  (.seq (.seq (.region [
    ⟨some 11, .mov (.t 5), none, []⟩] false)
  (.cond (.t 11)
    (.seq (.seq (.region [
      ⟨some 12, .mov (.t 6), none, []⟩] false)
    (.cond (.t 12)
      (.seq (.region [
        ⟨some 4, .mov (.c (.int .i64 0)), none, []⟩] false)
      (.ret))
      (.skip)))
    (.seq (.region [
      ⟨some 4, .mov (.c (.int .i64 (-1))), none, []⟩] false)
    (.ret)))
    (.skip)))
  (.seq (.seq (.region [
    ⟨some 13, .mov (.t 6), none, []⟩] false)
  (.cond (.t 13)
    (.seq (.region [
      ⟨some 4, .mov (.c (.int .i64 1)), none, []⟩] false)
    (.ret))
    (.skip)))
  (.seq (.seq (.region [
    ⟨some 14, .mov (.t 0), none, []⟩,
    ⟨some 15, .mov (.t 1), none, []⟩,
    ⟨some 16, .bin .int .lss (.t 14) (.t 15), none, []⟩] false)
  (.cond (.t 16)
    (.seq (.region [
      ⟨some 4, .mov (.c (.int .i64 (-1))), none, []⟩] false)
    (.ret))
    (.skip)))
  (.seq (.seq (.region [
    ⟨some 17, .mov (.t 0), none, []⟩,
    ⟨some 18, .mov (.t 1), none, []⟩,
    ⟨some 19, .bin .int .gtr (.t 17) (.t 18), none, []⟩] false)
  (.cond (.t 19)
    (.seq (.region [
      ⟨some 4, .mov (.c (.int .i64 1)), none, []⟩] false)
    (.ret))
    (.skip)))
  (.seq (.region [
    ⟨some 4, .mov (.c (.int .i64 0)), none, []⟩] false)
  (.ret))))))))
def f81 : AFunc := { np := 2, nt := 20, res := [.tmp 4], muts := [], own := false, body := b81 }

/- slices.rotateRight[tallyhall/api.Entry] -/
def b83 : ACode :=
  .region [
    ⟨some 4, .mov (.t 0), none, []⟩,
    ⟨some 5, .mov (.t 0), none, []⟩,
    ⟨some 6, .len false (.t 5), none, []⟩,
    ⟨some 7, .mov (.t 1), none, []⟩,
    ⟨some 8, .bin .int .sub (.t 6) (.t 7), none, []⟩,
    ⟨some 9, .call false [] 85 [(.t 4), (.t 8)], none, []⟩] false
def f83 : AFunc := { np := 2, nt := 10, res := [], muts := [], own := false, body := b83 }

/- cmp.isNaN[int] -/
def b84 : ACode :=
  .seq (.region [
    ⟨some 2, .mov (.c (.bool false)), none, []⟩] false)
  (.seq (.region [
    ⟨some 3, .mov (.t 0), none, []⟩,
    ⟨some 4, .mov (.t 0), none, []⟩,
    ⟨some 5, .bin .int .neq (.t 3) (.t 4), none, []⟩,
    ⟨some 2, .mov (.t 5), none, []⟩] false)
  (.ret))
def f84 : AFunc := { np := 1, nt := 6, res := [.tmp 2], muts := [], own := false, body := b84 }

/- slices.rotateLeft[tallyhall/api.Entry] -/
def b85 : ACode :=
  .seq (.region [
    ⟨some 4, .mov (.t 0), none, []⟩,
    ⟨some 5, .mov (.t 1), none, []⟩,
    ⟨some 6, .slc 2 (.t 4) none (some (.t 5)), none, []⟩,
    ⟨some 7, .call false [] 86 [(.t 6)], none, []⟩] false)
  (.seq (.region [
    ⟨some 8, .mov (.t 0), none, []⟩,
    ⟨some 9, .mov (.t 1), none, []⟩,
    ⟨some 10, .slc 2 (.t 8) (some (.t 9)) none, none, []⟩,
    ⟨some 11, .call false [] 86 [(.t 10)], none, []⟩] false)
  (.region [
    ⟨some 12, .mov (.t 0), none, []⟩,
    ⟨some 13, .call false [] 86 [(.t 12)], none, []⟩] false))
def f85 : AFunc := { np := 2, nt := 14, res := [], muts := [], own := false, body := b85 }

/- slices.Reverse[[]tallyhall/api.Entry,tallyhall/api.Entry] -/
def b86 : ACode :=
  .seq (.region [
    ⟨some 4, .mov (.t 0), none, []⟩,
    ⟨some 5, .len false (.t 4), none, []⟩,
    ⟨some 6, .bin .int .sub (.t 5) (.c (.int .i64 1)), none, []⟩,
    ⟨some 2, .mov (.c (.int .i64 0)), none, []⟩,
    ⟨some 3, .mov (.t 6), none, []⟩] false)
  (.block 0 (.loop (.seq (.seq (.region [
        ⟨some 7, .mov (.t 2), none, []⟩,
        ⟨some 8, .mov (.t 3), none, []⟩,
        ⟨some 9, .bin .int .lss (.t 7) (.t 8), none, []⟩] false)
      (.cond (.t 9)
        (.skip)
        (.exit 0)))
      (.seq (.block 1 (.region [
          ⟨some 14, .mov (.t 0), none, []⟩,
          ⟨some 15, .mov (.t 2), none, []⟩,
          ⟨some 16, .mov (.t 0), none, []⟩,
          ⟨some 17, .mov (.t 3), none, []⟩,
          ⟨some 18, .mov (.t 0), none, []⟩,
          ⟨some 19, .mov (.t 3), none, []⟩,
          ⟨some 20, .ia 2 (.t 18) (.t 19), none, [4, 5]⟩,
          ⟨some 21, .load (some 2) (.t 20), none, [6]⟩,
          ⟨some 22, .mov (.t 0), none, []⟩,
          ⟨some 23, .mov (.t 2), none, []⟩,
          ⟨some 24, .ia 2 (.t 22) (.t 23), none, [8, 9]⟩,
          ⟨some 25, .load (some 2) (.t 24), none, [10]⟩,
          ⟨some 26, .ia 2 (.t 14) (.t 15), none, [0, 1, 0, 1, 4, 5, 6, 7, 11]⟩,
          ⟨none, .store 2 (.t 26) (.t 21), none, [12, 7, 0, 1, 4, 5, 6, 7, 11]⟩,
          ⟨some 27, .ia 2 (.t 16) (.t 17), none, [2, 3, 0, 1, 2, 3, 4, 5, 6, 7, 8, 9, 10, 11, 12, 13]⟩,
          ⟨none, .store 2 (.t 27) (.t 25), none, [14, 11, 13, 0, 1, 2, 3, 4, 5, 6, 7, 8, 9, 10, 11, 12, 13]⟩] true))
      (.region [
        ⟨some 10, .mov (.t 2), none, []⟩,
        ⟨some 11, .bin .int .add (.t 10) (.c (.int .i64 1)), none, []⟩,
        ⟨some 12, .mov (.t 3), none, []⟩,
        ⟨some 13, .bin .int .sub (.t 12) (.c (.int .i64 1)), none, []⟩,
        ⟨some 2, .mov (.t 11), none, []⟩,
        ⟨some 3, .mov (.t 13), none, []⟩] false)))))
def f86 : AFunc := { np := 1, nt := 28, res := [], muts := [], own := false, body := b86 }

/- tallyhall/tallylaw1.OutlineTells -/
def b88 : ACode :=
  .seq (.region [
    ⟨some 3, .box (.t 0), none, []⟩,
    ⟨some 4, .box (.t 1), none, []⟩,
    ⟨some 6, .mov (.c (.bool false)), none, []⟩] false)
  (.seq (.region [
    ⟨some 22, .load (some 1) (.t 3), none, []⟩,
    ⟨some 23, .call false [] 94 [(.t 22)], none, []⟩,
    ⟨some 21, .mov (.t 23), none, []⟩,
    ⟨some 24, .ext (.t 21) 0, none, []⟩,
    ⟨some 25, .ext (.t 21) 1, none, []⟩,
    ⟨some 26, .ext (.t 21) 2, none, []⟩,
    ⟨some 7, .mov (.t 24), none, []⟩,
    ⟨some 8, .mov (.t 25), none, []⟩,
    ⟨some 9, .mov (.t 26), none, []⟩] false)
  (.seq (.region [
    ⟨some 28, .load (some 1) (.t 3), none, []⟩,
    ⟨some 29, .call false [] 14 [(.t 28)], none, []⟩,
    ⟨some 27, .mov (.t 29), none, []⟩,
    ⟨some 30, .ext (.t 27) 0, none, []⟩,
    ⟨some 31, .ext (.t 27) 1, none, []⟩,
    ⟨some 32, .ext (.t 27) 2, none, []⟩,
    ⟨some 10, .mov (.t 30), none, []⟩,
    ⟨some 11, .mov (.t 31), none, []⟩,
    ⟨some 12, .mov (.t 32), none, []⟩] false)
  (.seq (.region [
    ⟨some 33, .mov (.t 12), none, []⟩,
    ⟨some 34, .mov (.t 9), none, []⟩,
    ⟨some 35, .call false [] 92 [(.t 33), (.t 34)], none, []⟩,
    ⟨some 13, .mov (.t 35), none, []⟩] false)
  (.seq (.region [
    ⟨some 37, .load (some 3) (.t 4), none, []⟩,
    ⟨some 38, .call false [] 95 [(.t 37)], none, []⟩,
    ⟨some 36, .mov (.t 38), none, []⟩,
    ⟨some 39, .ext (.t 36) 0, none, []⟩,
    ⟨some 40, .ext (.t 36) 1, none, []⟩,
    ⟨some 14, .mov (.t 39), none, []⟩,
    ⟨some 9, .mov (.t 40), none, []⟩] false)
  (.seq (.region [
    ⟨some 42, .load (some 3) (.t 4), none, []⟩,
    ⟨some 43, .call false [] 15 [(.t 42)], none, []⟩,
    ⟨some 41, .mov (.t 43), none, []⟩,
    ⟨some 44, .ext (.t 41) 0, none, []⟩,
    ⟨some 45, .ext (.t 41) 1, none, []⟩,
    ⟨some 15, .mov (.t 44), none, []⟩,
    ⟨some 12, .mov (.t 45), none, []⟩] false)
  (.seq (.region [
    ⟨some 46, .mov (.t 12), none, []⟩,
    ⟨some 47, .mov (.t 9), none, []⟩,
    ⟨some 48, .call false [] 92 [(.t 46), (.t 47)], none, []⟩,
    ⟨some 16, .mov (.t 48), none, []⟩] false)
  (.seq (.region [
    ⟨some 17, .mov (.c (.int .i64 0)), none, []⟩] false)
  (.seq (.seq (.region [
    ⟨some 49, .mov (.t 9), none, []⟩,
    ⟨some 50, .bin .int .eql (.t 49) (.c (.int .i64 0)), none, []⟩] false)
  (.cond (.t 50)
    (.seq (.region [
      ⟨some 51, .load (some 3) (.t 4), none, []⟩,
      ⟨some 52, .mov (.t 2), none, []⟩,
      ⟨some 53, .call false [] 96 [(.t 51), (.t 52)], none, []⟩,
      ⟨some 17, .mov (.t 53), none, []⟩] false)
    (.seq (.region [
      ⟨some 54, .mov (.t 17), none, []⟩,
      ⟨some 55, .bin .int .lss (.t 54) (.c (.int .i64 0)), none, []⟩] false)
    (.cond (.t 55)
      (.seq (.region [
        ⟨some 17, .mov (.c (.int .i64 0)), none, []⟩] false)
      (.region [
        ⟨some 9, .mov (.c (.int .i64 5)), none, []⟩] false))
      (.skip))))
    (.skip)))
  (.seq (.region [
    ⟨some 57, .load (some 3) (.t 4), none, []⟩,
    ⟨some 58, .mov (.t 2), none, []⟩,
    ⟨some 59, .call false [] 13 [(.t 57), (.t 58)], none, []⟩,
    ⟨some 56, .mov (.t 59), none, []⟩,
    ⟨some 60, .ext (.t 56) 0, none, []⟩,
    ⟨some 61, .ext (.t 56) 1, none, []⟩,
    ⟨some 18, .mov (.t 60), none, []⟩,
    ⟨some 12, .mov (.t 61), none, []⟩] false)
  (.seq (.region [
    ⟨some 62, .mov (.t 12), none, []⟩,
    ⟨some 63, .mov (.t 9), none, []⟩,
    ⟨some 64, .call false [] 92 [(.t 62), (.t 63)], none, []⟩,
    ⟨some 19, .mov (.t 64), none, []⟩] false)
  (.seq (.region [
    ⟨some 65, .mov (.t 2), none, []⟩,
    ⟨some 66, .call false [] 41 [(.t 65)], none, []⟩,
    ⟨some 67, .mov (.t 2), none, []⟩,
    ⟨some 68, .call false [] 97 [(.t 67)], none, []⟩,
    ⟨some 69, .call false [] 92 [(.t 66), (.t 68)], none, []⟩,
    ⟨some 20, .mov (.t 69), none, []⟩] false)
  (.seq (.region [
    ⟨some 70, .mov (.t 13), none, []⟩,
    ⟨some 71, .mov (.t 70), none, []⟩,
    ⟨some 72, .mov (.t 16), (some (71, true)), []⟩,
    ⟨some 73, .pick (.t 71) (.t 72) (.c (.bool false)), none, []⟩,
    ⟨some 74, .mov (.t 73), none, []⟩,
    ⟨some 75, .mov (.t 19), (some (74, true)), []⟩,
    ⟨some 76, .pick (.t 74) (.t 75) (.c (.bool false)), none, []⟩,
    ⟨some 77, .mov (.t 76), none, []⟩,
    ⟨some 78, .mov (.t 20), (some (77, true)), []⟩,
    ⟨some 79, .pick (.t 77) (.t 78) (.c (.bool false)), none, []⟩,
    ⟨some 80, .mov (.t 79), none, []⟩,
    ⟨some 81, .mov (.t 10), (some (80, true)), []⟩,
    ⟨some 82, .mov (.t 7), (some (80, true)), []⟩,
    ⟨some 83, .bin .int .eql (.t 81) (.t 82), (some (80, true)), []⟩,
    ⟨some 84, .pick (.t 80) (.t 83) (.c (.bool false)), none, []⟩,
    ⟨some 85, .mov (.t 84), none, []⟩,
    ⟨some 86, .mov (.t 11), (some (85, true)), []⟩,
    ⟨some 87, .mov (.t 8), (some (85, true)), []⟩,
    ⟨some 88, .bin .int .eql (.t 86) (.t 87), (some (85, true)), []⟩,
    ⟨some 89, .pick (.t 85) (.t 88) (.c (.bool false)), none, []⟩,
    ⟨some 90, .mov (.t 89), none, []⟩,
    ⟨some 91, .mov (.t 15), (some (90, true)), []⟩,
    ⟨some 92, .mov (.t 14), (some (90, true)), []⟩,
    ⟨some 93, .bin .int .eql (.t 91) (.t 92), (some (90, true)), []⟩,
    ⟨some 94, .pick (.t 90) (.t 93) (.c (.bool false)), none, []⟩,
    ⟨some 95, .mov (.t 94), none, []⟩,
    ⟨some 96, .mov (.t 18), (some (95, true)), []⟩,
    ⟨some 97, .mov (.t 17), (some (95, true)), []⟩,
    ⟨some 98, .bin .int .eql (.t 96) (.t 97), (some (95, true)), []⟩,
    ⟨some 99, .pick (.t 95) (.t 98) (.c (.bool false)), none, []⟩,
    ⟨some 6, .mov (.t 99), none, []⟩] false)
  (.ret)))))))))))))
def f88 : AFunc := { np := 3, nt := 100, res := [.tmp 6], muts := [], own := false, body := b88 }

/- tallyhall/tallylaw4.PlaceCounts -/
def b89 : ACode :=
  .seq (.region [
    ⟨some 4, .mov (.c (.bool false)), none, []⟩] false)
  (.seq (.seq (.region [
    ⟨some 9, .mov (.t 0), none, []⟩,
    ⟨some 10, .bin .int .lss (.t 9) (.c (.int .i64 1)), none, []⟩,
    ⟨some 11, .mov (.t 10), none, []⟩,
    ⟨some 12, .mov (.t 0), (some (11, false)), []⟩,
    ⟨some 13, .bin .int .gtr (.t 12) (.c (.int .i64 10)), (some (11, false)), []⟩,
    ⟨some 14, .pick (.t 11) (.c (.bool true)) (.t 13), none, []⟩] false)
  (.cond (.t 14)
    (.seq (.region [
      ⟨some 4, .mov (.c (.bool true)), none, []⟩] false)
    (.ret))
    (.skip)))
  (.seq (.region [
    ⟨some 15, .mov (.t 0), none, []⟩,
    ⟨some 16, .call true [] 22 [(.t 15)], none, []⟩,
    ⟨some 5, .alloc [.slice none 0 0], none, []⟩,
    ⟨none, .store 1 (.t 5) (.t 16), none, []⟩] false)
  (.seq (.region [
    ⟨some 17, .mov (.t 0), none, []⟩,
    ⟨some 18, .bin .int .add (.t 17) (.c (.int .i64 1)), none, []⟩,
    ⟨some 19, .mov (.t 0), none, []⟩,
    ⟨some 20, .bin .int .add (.t 19) (.c (.int .i64 1)), none, []⟩,
    ⟨some 21, .bin .int .mul (.t 18) (.t 20), none, []⟩,
    ⟨some 6, .mov (.t 21), none, []⟩] false)
  (.seq (.region [
    ⟨some 23, .load (some 1) (.t 5), none, []⟩,
    ⟨some 24, .mov (.t 1), none, []⟩,
    ⟨some 25, .call true [] 98 [(.t 23), (.t 24)], none, []⟩,
    ⟨some 22, .mov (.t 25), none, []⟩,
    ⟨some 26, .ext (.t 22) 0, none, []⟩,
    ⟨some 27, .ext (.t 22) 1, none, []⟩,
    ⟨some 7, .mov (.t 26), none, []⟩,
    ⟨some 8, .mov (.t 27), none, []⟩] false)
  (.seq (.seq (.region [
    ⟨some 28, .mov (.t 1), none, []⟩,
    ⟨some 29, .bin .int .lss (.t 28) (.c (.int .i64 0)), none, []⟩,
    ⟨some 30, .mov (.t 29), none, []⟩,
    ⟨some 31, .mov (.t 1), (some (30, false)), []⟩,
    ⟨some 32, .mov (.t 6), (some (30, false)), []⟩,
    ⟨some 33, .bin .int .geq (.t 31) (.t 32), (some (30, false)), []⟩,
    ⟨some 34, .pick (.t 30) (.c (.bool true)) (.t 33), none, []⟩] false)
  (.cond (.t 34)
    (.seq (.region [
      ⟨some 35, .mov (.t 8), none, []⟩,
      ⟨some 36, .call false [] 92 [(.t 35), (.c (.int .i64 1))], none, []⟩,
      ⟨some 4, .mov (.t 36), none, []⟩] false)
    (.ret))
    (.skip)))
  (.seq (.region [
    ⟨some 37, .mov (.t 8), none, []⟩,
    ⟨some 38, .eqn false false (.t 37), none, [0]⟩,
    ⟨some 39, .mov (.t 38), none, [1]⟩,
    ⟨some 40, .mov (.t 7), (some (39, true)), [2]⟩,
    ⟨some 41, .len false (.t 40), (some (39, true)), [3, 2]⟩,
    ⟨some 42, .bin .int .eql (.t 41) (.c (.int .i64 2)), (some (39, true)), [4, 2]⟩,
    ⟨some 43, .pick (.t 39) (.t 42) (.c (.bool false)), none, [2, 5]⟩,
    ⟨some 44, .mov (.t 43), none, [6, 2]⟩,
    ⟨some 45, .mov (.t 7), (some (44, true)), [7]⟩,
    ⟨some 46, .ia 1 (.t 45) (.c (.int .i64 0)), (some (44, true)), [8, 7]⟩,
    ⟨some 47, .load none (.t 46), (some (44, true)), [9, 7]⟩,
    ⟨some 48, .mov (.t 1), (some (44, true)), [7]⟩,
    ⟨some 49, .mov (.t 0), (some (44, true)), [7]⟩,
    ⟨some 50, .bin .int .add (.t 49) (.c (.int .i64 1)), (some (44, true)), [12, 7]⟩,
    ⟨some 51, .bin .int .quo (.t 48) (.t 50), (some (44, true)), [11, 13, 7]⟩,
    ⟨some 52, .bin .int .eql (.t 47) (.t 51), (some (44, true)), [10, 14, 7]⟩,
    ⟨some 53, .pick (.t 44) (.t 52) (.c (.bool false)), none, [7, 15]⟩,
    ⟨some 54, .mov (.t 53), none, [16, 7]⟩,
    ⟨some 55, .mov (.t 7), (some (54, true)), [17]⟩,
    ⟨some 56, .ia 1 (.t 55) (.c (.int .i64 1)), (some (54, true)), [18, 17]⟩,
    ⟨some 57, .load none (.t 56), (some (54, true)), [19, 17]⟩,
    ⟨some 58, .mov (.t 1), (some (54, true)), [17]⟩,
    ⟨some 59, .mov (.t 0), (some (54, true)), [17]⟩,
    ⟨some 60, .bin .int .add (.t 59) (.c (.int .i64 1)), (some (54, true)), [22, 17]⟩,
    ⟨some 61, .bin .int .rem (.t 58) (.t 60), (some (54, true)), [21, 23, 17]⟩,
    ⟨some 62, .bin .int .eql (.t 57) (.t 61), (some (54, true)), [20, 24, 17]⟩,
    ⟨some 63, .pick (.t 54) (.t 62) (.c (.bool false)), none, [17, 25]⟩,
    ⟨some 4, .mov (.t 63), none, [26, 17, 0, 1, 2, 3, 4, 5, 6, 7, 8, 9, 10, 11, 12, 13, 14, 15, 16, 17, 18, 19, 20, 21, 22, 23, 24, 25, 26]⟩] true)
  (.ret)))))))
def f89 : AFunc := { np := 2, nt := 64, res := [.tmp 4], muts := [], own := false, body := b89 }

/- tallyhall/tallylaw4.TreeLine -/
def b90 : ACode :=
  .seq (.region [
    ⟨some 6, .mov (.c (.bool false)), none, []⟩] false)
  (.seq (.seq (.region [
    ⟨some 19, .mov (.t 0), none, []⟩,
    ⟨some 20, .bin .int .lss (.t 19) (.c (.int .i64 1)), none, []⟩,
    ⟨some 21, .mov (.t 20), none, []⟩,
    ⟨some 22, .mov (.t 0), (some (21, false)), []⟩,
    ⟨some 23, .bin .int .gtr (.t 22) (.c (.int .i64 12)), (some (21, false)), []⟩,
    ⟨some 24, .pick (.t 21) (.c (.bool true)) (.t 23), none, []⟩,
    ⟨some 25, .mov (.t 24), none, []⟩,
    ⟨some 26, .mov (.t 2), (some (25, false)), []⟩,
    ⟨some 27, .bin .int .lss (.t 26) (.c (.int .i64 (-1))), (some (25, false)), []⟩,
    ⟨some 28, .pick (.t 25) (.c (.bool true)) (.t 27), none, []⟩,
    ⟨some 29, .mov (.t 28), none, []⟩,
    ⟨some 30, .mov (.t 2), (some (29, false)), []⟩,
    ⟨some 31, .bin .int .gtr (.t 30) (.c (.int .i64 1)), (some (29, false)), []⟩,
    ⟨some 32, .pick (.t 29) (.c (.bool true)) (.t 31), none, []⟩] false)
  (.cond (.t 32)
    (.seq (.region [
      ⟨some 6, .mov (.c (.bool true)), none, []⟩] false)
    (.ret))
    (.skip)))
  (.seq (.region [
    ⟨some 33, .build [.string ⟨#[]⟩, .int .i64 0, .slice none 0 0] [(0, 1, (.c (.string ⟨#[97]⟩)))], none, []⟩,
    ⟨some 7, .alloc [.string ⟨#[]⟩, .int .i64 0, .slice none 0 0], none, []⟩,
    ⟨none, .store 3 (.t 7) (.t 33), none, []⟩] false)
  (.seq (.seq (.region [
    ⟨some 8, .mov (.c (.int .i64 0)), none, []⟩] false)
  (.block 0 (.loop (.seq (.seq (.region [
        ⟨some 34, .mov (.t 8), none, []⟩,
        ⟨some 35, .mov (.t 0), none, []⟩,
        ⟨some 36, .bin .int .lss (.t 34) (.t 35), none, []⟩] false)
      (.cond (.t 36)
        (.skip)
        (.exit 0)))
      (.seq (.block 1 (.region [
          ⟨some 39, .fa 2 (.t 7), none, []⟩,
          ⟨some 40, .load none (.t 39), none, [0]⟩,
          ⟨some 41, .mov (.t 8), none, []⟩,
          ⟨some 42, .call false [] 68 [(.t 41)], none, [2]⟩,
          ⟨some 43, .mov (.t 8), none, []⟩,
          ⟨some 44, .bin .int .sub (.t 43) (.c (.int .i64 1)), none, [4]⟩,
          ⟨some 45, .mov (.t 2), none, []⟩,
          ⟨some 46, .build [.string ⟨#[]⟩, .int .i64 0, .int .i64 0, .string ⟨#[]⟩] [(0, 1, (.t 42)), (1, 1, (.t 44)), (2, 1, (.t 45))], none, [3, 5, 6]⟩,
          ⟨some 47, .bslice false 4 [.string ⟨#[]⟩, .int .i64 0, .int .i64 0, .string ⟨#[]⟩] 1 [(0, (.t 46))], none, [7]⟩,
          ⟨some 48, .app 4 (.t 40) (.t 47), none, [1, 8, 3]⟩,
          ⟨some 49, .fa 2 (.t 7), none, [0, 1, 2, 3, 4, 5, 6, 7, 8, 9]⟩,
          ⟨none, .store 1 (.t 49) (.t 48), none, [10, 9, 9, 0, 1, 2, 3, 4, 5, 6, 7, 8, 9]⟩] true))
      (.region [
        ⟨some 37, .mov (.t 8), none, []⟩,
        ⟨some 38, .bin .int .add (.t 37) (.c (.int .i64 1)), none, []⟩,
        ⟨some 8, .mov (.t 38), none, []⟩] false))))))
  (.seq (.region [
    ⟨some 51, .load (some 3) (.t 7), none, []⟩,
    ⟨some 52, .mov (.t 1), none, []⟩,
    ⟨some 53, .call true [] 19 [(.t 51), (.t 52)], none, []⟩,
    ⟨some 50, .mov (.t 53), none, []⟩,
    ⟨some 54, .ext (.t 50) 0, none, []⟩,
    ⟨some 55, .ext (.t 50) 1, none, []⟩,
    ⟨some 9, .mov (.t 54), none, []⟩,
    ⟨some 10, .mov (.t 55), none, []⟩] false)
  (.seq (.region [
    ⟨some 57, .load (some 3) (.t 7), none, []⟩,
    ⟨some 58, .mov (.t 1), none, []⟩,
    ⟨some 59, .call true [] 17 [(.t 57), (.t 58)], none, []⟩,
    ⟨some 56, .mov (.t 59), none, []⟩,
    ⟨some 60, .ext (.t 56) 0, none, []⟩,
    ⟨some 61, .ext (.t 56) 1, none, []⟩,
    ⟨some 11, .mov (.t 60), none, []⟩,
    ⟨some 12, .mov (.t 61), none, []⟩] false)
  (.seq (.region [
    ⟨some 63, .load (some 3) (.t 7), none, []⟩,
    ⟨some 64, .mov (.t 1), none, []⟩,
    ⟨some 65, .mov (.t 0), none, []⟩,
    ⟨some 66, .bin .int .sub (.t 65) (.c (.int .i64 1)), none, []⟩,
    ⟨some 67, .call false [] 16 [(.t 63), (.t 64), (.t 66)], none, []⟩,
    ⟨some 62, .mov (.t 67), none, []⟩,
    ⟨some 68, .ext (.t 62) 0, none, []⟩,
    ⟨some 69, .ext (.t 62) 1, none, []⟩,
    ⟨some 13, .mov (.t 68), none, []⟩,
    ⟨some 14, .mov (.t 69), none, []⟩] false)
  (.seq (.region [
    ⟨some 71, .load (some 3) (.t 7), none, []⟩,
    ⟨some 72, .call false [] 99 [(.t 71)], none, []⟩,
    ⟨some 70, .mov (.t 72), none, []⟩,
    ⟨some 73, .ext (.t 70) 0, none, []⟩,
    ⟨some 74, .ext (.t 70) 1, none, []⟩,
    ⟨some 15, .mov (.t 73), none, []⟩,
    ⟨some 16, .mov (.t 74), none, []⟩] false)
  (.seq (.seq (.region [
    ⟨some 75, .mov (.t 1), none, []⟩,
    ⟨some 76, .bin .int .lss (.t 75) (.c (.int .i64 0)), none, []⟩,
    ⟨some 77, .mov (.t 76), none, []⟩,
    ⟨some 78, .mov (.t 1), (some (77, false)), []⟩,
    ⟨some 79, .mov (.t 0), (some (77, false)), []⟩,
    ⟨some 80, .bin .int .geq (.t 78) (.t 79), (some (77, false)), []⟩,
    ⟨some 81, .pick (.t 77) (.c (.bool true)) (.t 80), none, []⟩] false)
  (.cond (.t 81)
    (.seq (.region [
      ⟨some 82, .mov (.t 10), none, []⟩,
      ⟨some 83, .call false [] 92 [(.t 82), (.c (.int .i64 1))], none, []⟩,
      ⟨some 6, .mov (.t 83), none, []⟩] false)
    (.ret))
    (.skip)))
  (.seq (.region [
    ⟨some 17, .mov (.c (.int .i64 1)), none, []⟩] false)
  (.seq (.seq (.region [
    ⟨some 84, .mov (.t 1), none, []⟩,
    ⟨some 18, .mov (.t 84), none, []⟩] false)
  (.block 2 (.loop (.seq (.seq (.region [
        ⟨some 85, .mov (.t 18), none, []⟩,
        ⟨some 86, .mov (.t 0), none, []⟩,
        ⟨some 87, .bin .int .sub (.t 86) (.c (.int .i64 1)), none, []⟩,
        ⟨some 88, .bin .int .lss (.t 85) (.t 87), none, []⟩] false)
      (.cond (.t 88)
        (.skip)
        (.exit 2)))
      (.seq (.block 3 (.region [
          ⟨some 91, .mov (.t 17), none, []⟩,
          ⟨some 92, .mov (.t 2), none, []⟩,
          ⟨some 93, .bin .int .mul (.t 91) (.t 92), none, []⟩,
          ⟨some 17, .mov (.t 93), none, []⟩] false))
      (.region [
        ⟨some 89, .mov (.t 18), none, []⟩,
        ⟨some 90, .bin .int .add (.t 89) (.c (.int .i64 1)), none, []⟩,
        ⟨some 18, .mov (.t 90), none, []⟩] false))))))
  (.seq (.region [
    ⟨some 94, .mov (.t 10), none, []⟩,
    ⟨some 95, .eqn false false (.t 94), none, []⟩,
    ⟨some 96, .mov (.t 95), none, []⟩,
    ⟨some 97, .mov (.t 12), (some (96, true)), []⟩,
    ⟨some 98, .eqn false false (.t 97), (some (96, true)), []⟩,
    ⟨some 99, .pick (.t 96) (.t 98) (.c (.bool false)), none, []⟩,
    ⟨some 100, .mov (.t 99), none, []⟩,
    ⟨some 101, .mov (.t 14), (some (100, true)), []⟩,
    ⟨some 102, .eqn false false (.t 101), (some (100, true)), []⟩,
    ⟨some 103, .pick (.t 100) (.t 102) (.c (.bool false)), none, []⟩,
    ⟨some 104, .mov (.t 103), none, []⟩,
    ⟨some 105, .mov (.t 16), (some (104, true)), []⟩,
    ⟨some 106, .eqn false false (.t 105), (some (104, true)), []⟩,
    ⟨some 107, .pick (.t 104) (.t 106) (.c (.bool false)), none, []⟩,
    ⟨some 108, .mov (.t 107), none, []⟩,
    ⟨some 109, .mov (.t 9), (some (108, true)), []⟩,
    ⟨some 110, .len false (.t 109), (some (108, true)), []⟩,
    ⟨some 111, .mov (.t 1), (some (108, true)), []⟩,
    ⟨some 112, .bin .int .add (.t 111) (.c (.int .i64 1)), (some (108, true)), []⟩,
    ⟨some 113, .bin .int .eql (.t 110) (.t 112), (some (108, true)), []⟩,
    ⟨some 114, .pick (.t 108) (.t 113) (.c (.bool false)), none, []⟩,
    ⟨some 115, .mov (.t 114), none, []⟩,
    ⟨some 116, .mov (.t 11), (some (115, true)), []⟩,
    ⟨some 117, .len false (.t 116), (some (115, true)), []⟩,
    ⟨some 118, .bin .int .eql (.t 117) (.c (.int .i64 1)), (some (115, true)), []⟩,
    ⟨some 119, .pick (.t 115) (.t 118) (.c (.bool false)), none, []⟩,
    ⟨some 120, .mov (.t 119), none, []⟩,
    ⟨some 121, .mov (.t 11), (some (120, true)), []⟩,
    ⟨some 122, .ia 1 (.t 121) (.c (.int .i64 0)), (some (120, true)), []⟩,
    ⟨some 123, .load none (.t 122), (some (120, true)), []⟩,
    ⟨some 124, .mov (.t 0), (some (120, true)), []⟩,
    ⟨some 125, .bin .int .sub (.t 124) (.c (.int .i64 1)), (some (120, true)), []⟩,
    ⟨some 126, .bin .int .eql (.t 123) (.t 125), (some (120, true)), []⟩,
    ⟨some 127, .pick (.t 120) (.t 126) (.c (.bool false)), none, []⟩,
    ⟨some 128, .mov (.t 127), none, []⟩,
    ⟨some 129, .mov (.t 13), (some (128, true)), []⟩,
    ⟨some 130, .mov (.t 17), (some (128, true)), []⟩,
    ⟨some 131, .bin .int .eql (.t 129) (.t 130), (some (128, true)), []⟩,
    ⟨some 132, .pick (.t 128) (.t 131) (.c (.bool false)), none, []⟩,
    ⟨some 133, .mov (.t 132), none, []⟩,
    ⟨some 134, .mov (.t 15), (some (133, true)), []⟩,
    ⟨some 135, .mov (.t 0), (some (133, true)), []⟩,
    ⟨some 136, .bin .int .eql (.t 134) (.t 135), (some (133, true)), []⟩,
    ⟨some 137, .pick (.t 133) (.t 136) (.c (.bool false)), none, []⟩,
    ⟨some 6, .mov (.t 137), none, []⟩] false)
  (.ret))))))))))))
def f90 : AFunc := { np := 3, nt := 138, res := [.tmp 6], muts := [], own := false, body := b90 }

/- tallyhall/tallylaw1.TreeTells -/
def b91 : ACode :=
  .seq (.region [
    ⟨some 3, .box (.t 0), none, []⟩,
    ⟨some 6, .mov (.c (.bool false)), none, []⟩] false)
  (.seq (.region [
    ⟨some 38, .load (some 3) (.t 3), none, []⟩,
    ⟨some 39, .call false [] 95 [(.t 38)], none, []⟩,
    ⟨some 37, .mov (.t 39), none, []⟩,
    ⟨some 40, .ext (.t 37) 0, none, []⟩,
    ⟨some 41, .ext (.t 37) 1, none, []⟩,
    ⟨some 7, .mov (.t 40), none, []⟩,
    ⟨some 8, .mov (.t 41), none, []⟩] false)
  (.seq (.region [
    ⟨some 42, .mov (.t 8), none, []⟩,
    ⟨some 9, .mov (.t 42), none, []⟩] false)
  (.seq (.seq (.region [
    ⟨some 43, .mov (.t 9), none, []⟩,
    ⟨some 44, .bin .int .eql (.t 43) (.c (.int .i64 0)), none, []⟩,
    ⟨some 45, .mov (.t 44), none, []⟩,
    ⟨some 46, .mov (.t 1), (some (45, true)), []⟩,
    ⟨some 47, .bin .int .lss (.t 46) (.c (.int .i64 0)), (some (45, true)), []⟩,
    ⟨some 48, .mov (.t 47), (some (45, true)), []⟩,
    ⟨some 49, .mov (.t 1), (some (48, false)), []⟩,
    ⟨some 50, .fa 2 (.t 3), (some (48, false)), []⟩,
    ⟨some 51, .load none (.t 50), (some (48, false)), []⟩,
    ⟨some 52, .len false (.t 51), (some (48, false)), []⟩,
    ⟨some 53, .bin .int .geq (.t 49) (.t 52), (some (48, false)), []⟩,
    ⟨some 54, .pick (.t 48) (.c (.bool true)) (.t 53), (some (45, true)), []⟩,
    ⟨some 55, .pick (.t 45) (.t 54) (.c (.bool false)), none, []⟩] false)
  (.cond (.t 55)
    (.region [
      ⟨some 9, .mov (.c (.int .i64 1)), none, []⟩] false)
    (.skip)))
  (.seq (.region [
    ⟨some 10, .mov (.c (.slice none 0 0)), none, []⟩,
    ⟨some 11, .mov (.c (.slice none 0 0)), none, []⟩,
    ⟨some 12, .mov (.c (.slice none 0 0)), none, []⟩] false)
  (.seq (.region [
    ⟨some 13, .mov (.c (.bool false)), none, []⟩] false)
  (.seq (.seq (.region [
    ⟨some 56, .mov (.t 9), none, []⟩,
    ⟨some 57, .bin .int .eql (.t 56) (.c (.int .i64 0)), none, []⟩] false)
  (.cond (.t 57)
    (.seq (.region [
      ⟨some 58, .load (some 3) (.t 3), none, []⟩,
      ⟨some 59, .mov (.t 1), none, []⟩,
      ⟨some 60, .call true [] 100 [(.t 58), (.t 59)], none, []⟩,
      ⟨some 10, .mov (.t 60), none, []⟩] false)
    (.seq (.region [
      ⟨some 61, .load (some 3) (.t 3), none, []⟩,
      ⟨some 62, .mov (.t 1), none, []⟩,
      ⟨some 63, .call true [] 101 [(.t 61), (.t 62)], none, []⟩,
      ⟨some 11, .mov (.t 63), none, []⟩] false)
    (.seq (.region [
      ⟨some 64, .load (some 3) (.t 3), none, []⟩,
      ⟨some 65, .mov (.t 1), none, []⟩,
      ⟨some 66, .call false [] 102 [(.t 64), (.t 65)], none, []⟩,
      ⟨some 13, .mov (.t 66), none, []⟩] false)
    (.seq (.region [
      ⟨some 67, .mov (.t 1), none, []⟩,
      ⟨some 14, .mov (.t 67), none, []⟩] false)
    (.block 0 (.loop (.seq (.seq (.region [
          ⟨some 68, .mov (.t 14), none, []⟩,
          ⟨some 69, .bin .int .geq (.t 68) (.c (.int .i64 0)), none, []⟩] false)
        (.cond (.t 69)
          (.skip)
          (.exit 0)))
        (.seq (.block 1 (.region [
            ⟨some 76, .mov (.t 12), none, []⟩,
            ⟨some 77, .mov (.t 14), none, []⟩,
            ⟨some 78, .bslice false 1 [.int .i64 0] 1 [(0, (.t 77))], none, []⟩,
            ⟨some 79, .app 1 (.t 76) (.t 78), none, []⟩,
            ⟨some 12, .mov (.t 79), none, []⟩] false))
        (.region [
          ⟨some 70, .fa 2 (.t 3), none, []⟩,
          ⟨some 71, .load none (.t 70), none, []⟩,
          ⟨some 72, .mov (.t 14), none, []⟩,
          ⟨some 73, .ia 4 (.t 71) (.t 72), none, []⟩,
          ⟨some 74, .fa 1 (.t 73), none, []⟩,
          ⟨some 75, .load none (.t 74), none, []⟩,
          ⟨some 14, .mov (.t 75), none, []⟩] false)))))))))
    (.skip)))
  (.seq (.region [
    ⟨some 81, .load (some 3) (.t 3), none, []⟩,
    ⟨some 82, .mov (.t 1), none, []⟩,
    ⟨some 83, .call true [] 18 [(.t 81), (.t 82)], none, []⟩,
    ⟨some 80, .mov (.t 83), none, []⟩,
    ⟨some 84, .ext (.t 80) 0, none, []⟩,
    ⟨some 85, .ext (.t 80) 1, none, []⟩,
    ⟨some 15, .mov (.t 84), none, []⟩,
    ⟨some 16, .mov (.t 85), none, []⟩] false)
  (.seq (.region [
    ⟨some 86, .mov (.t 16), none, []⟩,
    ⟨some 87, .mov (.t 9), none, []⟩,
    ⟨some 88, .call false [] 92 [(.t 86), (.t 87)], none, []⟩,
    ⟨some 17, .mov (.t 88), none, []⟩] false)
  (.seq (.region [
    ⟨some 90, .load (some 3) (.t 3), none, []⟩,
    ⟨some 91, .mov (.t 1), none, []⟩,
    ⟨some 92, .call true [] 17 [(.t 90), (.t 91)], none, []⟩,
    ⟨some 89, .mov (.t 92), none, []⟩,
    ⟨some 93, .ext (.t 89) 0, none, []⟩,
    ⟨some 94, .ext (.t 89) 1, none, []⟩,
    ⟨some 18, .mov (.t 93), none, []⟩,
    ⟨some 16, .mov (.t 94), none, []⟩] false)
  (.seq (.region [
    ⟨some 95, .mov (.t 16), none, []⟩,
    ⟨some 96, .mov (.t 9), none, []⟩,
    ⟨some 97, .call false [] 92 [(.t 95), (.t 96)], none, []⟩,
    ⟨some 19, .mov (.t 97), none, []⟩] false)
  (.seq (.region [
    ⟨some 99, .load (some 3) (.t 3), none, []⟩,
    ⟨some 100, .mov (.t 1), none, []⟩,
    ⟨some 101, .call true [] 19 [(.t 99), (.t 100)], none, []⟩,
    ⟨some 98, .mov (.t 101), none, []⟩,
    ⟨some 102, .ext (.t 98) 0, none, []⟩,
    ⟨some 103, .ext (.t 98) 1, none, []⟩,
    ⟨some 20, .mov (.t 102), none, []⟩,
    ⟨some 16, .mov (.t 103), none, []⟩] false)
  (.seq (.region [
    ⟨some 104, .mov (.t 16), none, []⟩,
    ⟨some 105, .mov (.t 9), none, []⟩,
    ⟨some 106, .call false [] 92 [(.t 104), (.t 105)], none, []⟩,
    ⟨some 21, .mov (.t 106), none, []⟩] false)
  (.seq (.region [
    ⟨some 108, .load (some 3) (.t 3), none, []⟩,
    ⟨some 109, .mov (.t 1), none, []⟩,
    ⟨some 110, .call false [] 20 [(.t 108), (.t 109)], none, []⟩,
    ⟨some 107, .mov (.t 110), none, []⟩,
    ⟨some 111, .ext (.t 107) 0, none, []⟩,
    ⟨some 112, .ext (.t 107) 1, none, []⟩,
    ⟨some 22, .mov (.t 111), none, []⟩,
    ⟨some 16, .mov (.t 112), none, []⟩] false)
  (.seq (.region [
    ⟨some 113, .mov (.t 16), none, []⟩,
    ⟨some 114, .mov (.t 9), none, []⟩,
    ⟨some 115, .call false [] 92 [(.t 113), (.t 114)], none, []⟩,
    ⟨some 23, .mov (.t 115), none, []⟩] false)
  (.seq (.region [
    ⟨some 24, .mov (.c (.int .i64 0)), none, []⟩] false)
  (.seq (.seq (.region [
    ⟨some 116, .mov (.t 9), none, []⟩,
    ⟨some 117, .bin .int .eql (.t 116) (.c (.int .i64 0)), none, []⟩,
    ⟨some 118, .mov (.t 117), none, []⟩,
    ⟨some 119, .mov (.t 2), (some (118, true)), []⟩,
    ⟨some 120, .bin .int .lss (.t 119) (.c (.int .i64 0)), (some (118, true)), []⟩,
    ⟨some 121, .mov (.t 120), (some (118, true)), []⟩,
    ⟨some 122, .mov (.t 2), (some (121, false)), []⟩,
    ⟨some 123, .fa 2 (.t 3), (some (121, false)), []⟩,
    ⟨some 124, .load none (.t 123), (some (121, false)), []⟩,
    ⟨some 125, .len false (.t 124), (some (121, false)), []⟩,
    ⟨some 126, .bin .int .geq (.t 122) (.t 125), (some (121, false)), []⟩,
    ⟨some 127, .pick (.t 121) (.c (.bool true)) (.t 126), (some (118, true)), []⟩,
    ⟨some 128, .pick (.t 118) (.t 127) (.c (.bool false)), none, []⟩] false)
  (.cond (.t 128)
    (.region [
      ⟨some 9, .mov (.c (.int .i64 1)), none, []⟩] false)
    (.skip)))
  (.seq (.seq (.region [
    ⟨some 129, .mov (.t 9), none, []⟩,
    ⟨some 130, .bin .int .eql (.t 129) (.c (.int .i64 0)), none, []⟩] false)
  (.cond (.t 130)
    (.seq (.region [
      ⟨some 131, .load (some 3) (.t 3), none, []⟩,
      ⟨some 132, .mov (.t 2), none, []⟩,
      ⟨some 133, .call false [] 102 [(.t 131), (.t 132)], none, []⟩,
      ⟨some 25, .mov (.t 133), none, []⟩] false)
    (.seq (.region [
      ⟨some 134, .mov (.t 25), none, []⟩] false)
    (.cond (.t 134)
      (.region [
        ⟨some 136, .load (some 3) (.t 3), none, []⟩,
        ⟨some 137, .mov (.t 1), none, []⟩,
        ⟨some 138, .mov (.t 2), none, []⟩,
        ⟨some 139, .call false [] 103 [(.t 136), (.t 137), (.t 138)], none, []⟩,
        ⟨some 135, .mov (.t 139), none, []⟩,
        ⟨some 140, .ext (.t 135) 0, none, []⟩,
        ⟨some 141, .ext (.t 135) 1, none, []⟩,
        ⟨some 24, .mov (.t 140), none, []⟩] false)
      (.region [
        ⟨some 9, .mov (.c (.int .i64 3)), none, []⟩] false))))
    (.skip)))
  (.seq (.region [
    ⟨some 143, .load (some 3) (.t 3), none, []⟩,
    ⟨some 144, .mov (.t 1), none, []⟩,
    ⟨some 145, .mov (.t 2), none, []⟩,
    ⟨some 146, .call false [] 16 [(.t 143), (.t 144), (.t 145)], none, []⟩,
    ⟨some 142, .mov (.t 146), none, []⟩,
    ⟨some 147, .ext (.t 142) 0, none, []⟩,
    ⟨some 148, .ext (.t 142) 1, none, []⟩,
    ⟨some 26, .mov (.t 147), none, []⟩,
    ⟨some 16, .mov (.t 148), none, []⟩] false)
  (.seq (.region [
    ⟨some 149, .mov (.t 16), none, []⟩,
    ⟨some 150, .mov (.t 9), none, []⟩,
    ⟨some 151, .call false [] 92 [(.t 149), (.t 150)], none, []⟩,
    ⟨some 27, .mov (.t 151), none, []⟩] false)
  (.seq (.region [
    ⟨some 28, .mov (.c (.int .i64 0)), none, []⟩] false)
  (.seq (.seq (.region [
    ⟨some 29, .mov (.c (.int .i64 0)), none, []⟩] false)
  (.block 2 (.loop (.seq (.seq (.region [
        ⟨some 152, .mov (.t 29), none, []⟩,
        ⟨some 153, .fa 2 (.t 3), none, []⟩,
        ⟨some 154, .load none (.t 153), none, []⟩,
        ⟨some 155, .len false (.t 154), none, []⟩,
        ⟨some 156, .bin .int .lss (.t 152) (.t 155), none, []⟩,
        ⟨some 157, .mov (.t 156), none, []⟩,
        ⟨some 158, .mov (.t 8), (some (157, true)), []⟩,
        ⟨some 159, .bin .int .eql (.t 158) (.c (.int .i64 0)), (some (157, true)), []⟩,
        ⟨some 160, .pick (.t 157) (.t 159) (.c (.bool false)), none, []⟩] false)
      (.cond (.t 160)
        (.skip)
        (.exit 2)))
      (.seq (.block 3 (.seq (.region [
          ⟨some 30, .mov (.c (.int .i64 0)), none, []⟩] false)
        (.seq (.seq (.region [
          ⟨some 163, .mov (.t 29), none, []⟩,
          ⟨some 31, .mov (.t 163), none, []⟩] false)
        (.block 4 (.loop (.seq (.seq (.region [
              ⟨some 164, .mov (.t 31), none, []⟩,
              ⟨some 165, .bin .int .geq (.t 164) (.c (.int .i64 0)), none, []⟩] false)
            (.cond (.t 165)
              (.skip)
              (.exit 4)))
            (.seq (.block 5 (.region [
                ⟨some 172, .mov (.t 30), none, []⟩,
                ⟨some 173, .bin .int .add (.t 172) (.c (.int .i64 1)), none, []⟩,
                ⟨some 30, .mov (.t 173), none, []⟩] false))
            (.region [
              ⟨some 166, .fa 2 (.t 3), none, []⟩,
              ⟨some 167, .load none (.t 166), none, []⟩,
              ⟨some 168, .mov (.t 31), none, []⟩,
              ⟨some 169, .ia 4 (.t 167) (.t 168), none, []⟩,
              ⟨some 170, .fa 1 (.t 169), none, []⟩,
              ⟨some 171, .load none (.t 170), none, []⟩,
              ⟨some 31, .mov (.t 171), none, []⟩] false))))))
        (.seq (.region [
          ⟨some 174, .mov (.t 30), none, []⟩,
          ⟨some 175, .mov (.t 28), none, []⟩,
          ⟨some 176, .bin .int .gtr (.t 174) (.t 175), none, []⟩] false)
        (.cond (.t 176)
          (.region [
            ⟨some 177, .mov (.t 30), none, []⟩,
            ⟨some 28, .mov (.t 177), none, []⟩] false)
          (.skip))))))
      (.region [
        ⟨some 161, .mov (.t 29), none, []⟩,
        ⟨some 162, .bin .int .add (.t 161) (.c (.int .i64 1)), none, []⟩,
        ⟨some 29, .mov (.t 162), none, []⟩] false))))))
  (.seq (.region [
    ⟨some 179, .load (some 3) (.t 3), none, []⟩,
    ⟨some 180, .call false [] 99 [(.t 179)], none, []⟩,
    ⟨some 178, .mov (.t 180), none, []⟩,
    ⟨some 181, .ext (.t 178) 0, none, []⟩,
    ⟨some 182, .ext (.t 178) 1, none, []⟩,
    ⟨some 32, .mov (.t 181), none, []⟩,
    ⟨some 16, .mov (.t 182), none, []⟩] false)
  (.seq (.region [
    ⟨some 183, .mov (.t 16), none, []⟩,
    ⟨some 184, .mov (.t 8), none, []⟩,
    ⟨some 185, .call false [] 92 [(.t 183), (.t 184)], none, []⟩,
    ⟨some 33, .mov (.t 185), none, []⟩] false)
  (.seq (.region [
    ⟨some 186, .mov (.t 15), none, []⟩,
    ⟨some 187, .mov (.t 10), none, []⟩,
    ⟨some 188, .call false [] 104 [(.t 186), (.t 187)], none, []⟩,
    ⟨some 34, .mov (.t 188), none, []⟩] false)
  (.seq (.region [
    ⟨some 189, .mov (.t 18), none, []⟩,
    ⟨some 190, .mov (.t 11), none, []⟩,
    ⟨some 191, .call false [] 104 [(.t 189), (.t 190)], none, []⟩,
    ⟨some 35, .mov (.t 191), none, []⟩] false)
  (.seq (.region [
    ⟨some 192, .mov (.t 20), none, []⟩,
    ⟨some 193, .mov (.t 12), none, []⟩,
    ⟨some 194, .call false [] 104 [(.t 192), (.t 193)], none, []⟩,
    ⟨some 36, .mov (.t 194), none, []⟩] false)
  (.seq (.region [
    ⟨some 195, .mov (.t 17), none, []⟩,
    ⟨some 196, .mov (.t 195), none, []⟩,
    ⟨some 197, .mov (.t 19), (some (196, true)), []⟩,
    ⟨some 198, .pick (.t 196) (.t 197) (.c (.bool false)), none, []⟩,
    ⟨some 199, .mov (.t 198), none, []⟩,
    ⟨some 200, .mov (.t 21), (some (199, true)), []⟩,
    ⟨some 201, .pick (.t 199) (.t 200) (.c (.bool false)), none, []⟩,
    ⟨some 202, .mov (.t 201), none, []⟩,
    ⟨some 203, .mov (.t 23), (some (202, true)), []⟩,
    ⟨some 204, .pick (.t 202) (.t 203) (.c (.bool false)), none, []⟩,
    ⟨some 205, .mov (.t 204), none, []⟩,
    ⟨some 206, .mov (.t 27), (some (205, true)), []⟩,
    ⟨some 207, .pick (.t 205) (.t 206) (.c (.bool false)), none, []⟩,
    ⟨some 208, .mov (.t 207), none, []⟩,
    ⟨some 209, .mov (.t 33), (some (208, true)), []⟩,
    ⟨some 210, .pick (.t 208) (.t 209) (.c (.bool false)), none, []⟩,
    ⟨some 211, .mov (.t 210), none, []⟩,
    ⟨some 212, .mov (.t 34), (some (211, true)), []⟩,
    ⟨some 213, .pick (.t 211) (.t 212) (.c (.bool false)), none, []⟩,
    ⟨some 214, .mov (.t 213), none, []⟩,
    ⟨some 215, .mov (.t 35), (some (214, true)), []⟩,
    ⟨some 216, .pick (.t 214) (.t 215) (.c (.bool false)), none, []⟩,
    ⟨some 217, .mov (.t 216), none, []⟩,
    ⟨some 218, .mov (.t 36), (some (217, true)), []⟩,
    ⟨some 219, .pick (.t 217) (.t 218) (.c (.bool false)), none, []⟩,
    ⟨some 220, .mov (.t 219), none, []⟩,
    ⟨some 221, .mov (.t 22), (some (220, true)), []⟩,
    ⟨some 222, .mov (.t 13), (some (220, true)), []⟩,
    ⟨some 223, .bin .bool .eql (.t 221) (.t 222), (some (220, true)), []⟩,
    ⟨some 224, .pick (.t 220) (.t 223) (.c (.bool false)), none, []⟩,
    ⟨some 225, .mov (.t 224), none, []⟩,
    ⟨some 226, .mov (.t 26), (some (225, true)), []⟩,
    ⟨some 227, .mov (.t 24), (some (225, true)), []⟩,
    ⟨some 228, .bin .int .eql (.t 226) (.t 227), (some (225, true)), []⟩,
    ⟨some 229, .pick (.t 225) (.t 228) (.c (.bool false)), none, []⟩,
    ⟨some 230, .mov (.t 229), none, []⟩,
    ⟨some 231, .mov (.t 32), (some (230, true)), []⟩,
    ⟨some 232, .mov (.t 28), (some (230, true)), []⟩,
    ⟨some 233, .bin .int .eql (.t 231) (.t 232), (some (230, true)), []⟩,
    ⟨some 234, .pick (.t 230) (.t 233) (.c (.bool false)), none, []⟩,
    ⟨some 6, .mov (.t 234), none, []⟩] false)
  (.ret))))))))))))))))))))))))))))
def f91 : AFunc := { np := 3, nt := 235, res := [.tmp 6], muts := [], own := false, body := b91 }

/- tallyhall/tallysame.Error -/
def b92 : ACode :=
  .seq (.region [
    ⟨some 4, .mov (.c (.bool false)), none, []⟩] false)
  (.seq (.region [
    ⟨some 6, .mov (.t 0), none, []⟩,
    ⟨some 7, .call false [] 105 [(.t 6)], none, []⟩,
    ⟨some 5, .mov (.t 7), none, []⟩] false)
  (.seq (.region [
    ⟨some 8, .mov (.t 5), none, []⟩,
    ⟨some 9, .mov (.t 1), none, []⟩,
    ⟨some 10, .bin .int .eql (.t 8) (.t 9), none, []⟩,
    ⟨some 4, .mov (.t 10), none, []⟩] false)
  (.ret)))
def f92 : AFunc := { np := 2, nt := 11, res := [.tmp 4], muts := [], own := false, body := b92 }

/- tallyhall/place.Cells -/
def b93 : ACode :=
  .seq (.region [
    ⟨some 1, .box (.t 0), none, []⟩,
    ⟨some 2, .mov (.c (.int .i64 0)), none, []⟩,
    ⟨some 3, .mov (.c (.nilIface)), none, []⟩] false)
  (.seq (.seq (.region [
    ⟨some 5, .load (some 1) (.t 1), none, []⟩,
    ⟨some 6, .call false [] 51 [(.t 5)], none, []⟩,
    ⟨some 4, .mov (.t 6), none, []⟩] false)
  (.seq (.region [
    ⟨some 7, .mov (.t 4), none, []⟩,
    ⟨some 8, .eqn false true (.t 7), none, []⟩] false)
  (.cond (.t 8)
    (.seq (.region [
      ⟨some 9, .mov (.t 4), none, []⟩,
      ⟨some 2, .mov (.c (.int .i64 0)), none, []⟩,
      ⟨some 3, .mov (.t 9), none, []⟩] false)
    (.ret))
    (.skip))))
  (.seq (.region [
    ⟨some 10, .load (some 1) (.t 1), none, []⟩,
    ⟨some 11, .call false [] 40 [(.t 10)], none, []⟩,
    ⟨some 2, .mov (.t 11), none, []⟩,
    ⟨some 3, .mov (.c (.nilIface)), none, []⟩] false)
  (.ret)))
def f93 : AFunc := { np := 1, nt := 12, res := [.tmp 2, .tmp 3], muts := [], own := false, body := b93 }

/- tallyhall/tallyref1.Outline -/
def b94 : ACode :=
  .seq (.region [
    ⟨some 1, .box (.t 0), none, []⟩,
    ⟨some 2, .mov (.c (.int .i64 0)), none, []⟩,
    ⟨some 3, .mov (.c (.int .i64 0)), none, []⟩,
    ⟨some 4, .mov (.c (.int .i64 0)), none, []⟩] false)
  (.seq (.seq (.region [
    ⟨some 9, .fa 0 (.t 1), none, []⟩,
    ⟨some 10, .load none (.t 9), none, []⟩,
    ⟨some 11, .len false (.t 10), none, []⟩,
    ⟨some 12, .bin .int .gtr (.t 11) (.c (.int .i64 4)), none, []⟩] false)
  (.cond (.t 12)
    (.seq (.region [
      ⟨some 2, .mov (.c (.int .i64 (-1))), none, []⟩,
      ⟨some 3, .mov (.c (.int .i64 (-1))), none, []⟩,
      ⟨some 4, .mov (.c (.int .i64 4)), none, []⟩] false)
    (.ret))
    (.skip)))
  (.seq (.seq (.region [
    ⟨some 13, .fa 0 (.t 1), none, []⟩,
    ⟨some 14, .load none (.t 13), none, []⟩,
    ⟨some 15, .len false (.t 14), none, []⟩,
    ⟨some 16, .bin .int .eql (.t 15) (.c (.int .i64 0)), none, []⟩] false)
  (.cond (.t 16)
    (.seq (.region [
      ⟨some 2, .mov (.c (.int .i64 (-1))), none, []⟩,
      ⟨some 3, .mov (.c (.int .i64 (-1))), none, []⟩,
      ⟨some 4, .mov (.c (.int .i64 5)), none, []⟩] false)
    (.ret))
    (.skip)))
  (.seq (.seq (.region [
    ⟨some 5, .mov (.c (.int .i64 0)), none, []⟩] false)
  (.block 0 (.loop (.seq (.seq (.region [
        ⟨some 17, .mov (.t 5), none, []⟩,
        ⟨some 18, .fa 0 (.t 1), none, []⟩,
        ⟨some 19, .load none (.t 18), none, []⟩,
        ⟨some 20, .len false (.t 19), none, []⟩,
        ⟨some 21, .bin .int .lss (.t 17) (.t 20), none, []⟩] false)
      (.cond (.t 21)
        (.skip)
        (.exit 0)))
      (.seq (.block 1 (.seq (.region [
          ⟨some 25, .fa 0 (.t 1), none, []⟩,
          ⟨some 26, .load none (.t 25), none, []⟩,
          ⟨some 27, .mov (.t 5), none, []⟩,
          ⟨some 28, .ia 3 (.t 26) (.t 27), none, []⟩,
          ⟨some 29, .load (some 3) (.t 28), none, []⟩,
          ⟨some 30, .call false [] 95 [(.t 29)], none, []⟩,
          ⟨some 24, .mov (.t 30), none, []⟩,
          ⟨some 31, .ext (.t 24) 0, none, []⟩,
          ⟨some 32, .ext (.t 24) 1, none, []⟩,
          ⟨some 6, .mov (.t 31), none, []⟩,
          ⟨some 7, .mov (.t 32), none, []⟩] false)
        (.seq (.seq (.region [
          ⟨some 8, .mov (.c (.int .i64 0)), none, []⟩] false)
        (.block 2 (.loop (.seq (.seq (.region [
              ⟨some 33, .mov (.t 8), none, []⟩,
              ⟨some 34, .mov (.t 5), none, []⟩,
              ⟨some 35, .bin .int .lss (.t 33) (.t 34), none, []⟩,
              ⟨some 36, .mov (.t 35), none, []⟩,
              ⟨some 37, .mov (.t 7), (some (36, true)), []⟩,
              ⟨some 38, .bin .int .eql (.t 37) (.c (.int .i64 0)), (some (36, true)), []⟩,
              ⟨some 39, .pick (.t 36) (.t 38) (.c (.bool false)), none, []⟩] false)
            (.cond (.t 39)
              (.skip)
              (.exit 2)))
            (.seq (.block 3 (.seq (.region [
                ⟨some 42, .fa 0 (.t 1), none, []⟩,
                ⟨some 43, .load none (.t 42), none, [0]⟩,
                ⟨some 44, .mov (.t 8), none, []⟩,
                ⟨some 45, .ia 3 (.t 43) (.t 44), none, [1, 2]⟩,
                ⟨some 46, .fa 0 (.t 45), none, [3]⟩,
                ⟨some 47, .load none (.t 46), none, [4]⟩,
                ⟨some 48, .fa 0 (.t 1), none, []⟩,
                ⟨some 49, .load none (.t 48), none, [6]⟩,
                ⟨some 50, .mov (.t 5), none, []⟩,
                ⟨some 51, .ia 3 (.t 49) (.t 50), none, [7, 8]⟩,
                ⟨some 52, .fa 0 (.t 51), none, [9]⟩,
                ⟨some 53, .load none (.t 52), none, [10]⟩,
                ⟨some 54, .bin .str .eql (.t 47) (.t 53), none, [5, 11]⟩] true)
              (.cond (.t 54)
                (.region [
                  ⟨some 7, .mov (.c (.int .i64 7)), none, []⟩] false)
                (.skip))))
            (.region [
              ⟨some 40, .mov (.t 8), none, []⟩,
              ⟨some 41, .bin .int .add (.t 40) (.c (.int .i64 1)), none, []⟩,
              ⟨some 8, .mov (.t 41), none, []⟩] false))))))
        (.seq (.region [
          ⟨some 55, .mov (.t 7), none, []⟩,
          ⟨some 56, .bin .int .neq (.t 55) (.c (.int .i64 0)), none, []⟩] false)
        (.cond (.t 56)
          (.seq (.region [
            ⟨some 57, .mov (.t 5), none, []⟩,
            ⟨some 58, .mov (.t 6), none, []⟩,
            ⟨some 59, .mov (.t 7), none, []⟩,
            ⟨some 2, .mov (.t 57), none, []⟩,
            ⟨some 3, .mov (.t 58), none, []⟩,
            ⟨some 4, .mov (.t 59), none, []⟩] false)
          (.ret))
          (.skip))))))
      (.region [
        ⟨some 22, .mov (.t 5), none, []⟩,
        ⟨some 23, .bin .int .add (.t 22) (.c (.int .i64 1)), none, []⟩,
        ⟨some 5, .mov (.t 23), none, []⟩] false))))))
  (.seq (.seq (.region [
    ⟨some 60, .load (some 1) (.t 1), none, []⟩,
    ⟨some 61, .call false [] 106 [(.t 60)], none, []⟩,
    ⟨some 62, .bin .int .gtr (.t 61) (.c (.int .i64 3000)), none, []⟩] false)
  (.cond (.t 62)
    (.seq (.region [
      ⟨some 2, .mov (.c (.int .i64 (-1))), none, []⟩,
      ⟨some 3, .mov (.c (.int .i64 (-1))), none, []⟩,
      ⟨some 4, .mov (.c (.int .i64 4)), none, []⟩] false)
    (.ret))
    (.skip)))
  (.seq (.region [
    ⟨some 2, .mov (.c (.int .i64 (-1))), none, []⟩,
    ⟨some 3, .mov (.c (.int .i64 (-1))), none, []⟩,
    ⟨some 4, .mov (.c (.int .i64 0)), none, []⟩] false)
  (.ret))))))
def f94 : AFunc := { np := 1, nt := 63, res := [.tmp 2, .tmp 3, .tmp 4], muts := [], own := false, body := b94 }

/- tallyhall/tallyref1.Dim -/
def b95 : ACode :=
  .seq (.region [
    ⟨some 1, .box (.t 0), none, []⟩,
    ⟨some 2, .mov (.c (.int .i64 0)), none, []⟩,
    ⟨some 3, .mov (.c (.int .i64 0)), none, []⟩] false)
  (.seq (.seq (.region [
    ⟨some 6, .fa 0 (.t 1), none, []⟩,
    ⟨some 7, .load none (.t 6), none, []⟩,
    ⟨some 8, .call false [] 97 [(.t 7)], none, []⟩,
    ⟨some 9, .bin .int .neq (.t 8) (.c (.int .i64 0)), none, []⟩] false)
  (.cond (.t 9)
    (.seq (.region [
      ⟨some 2, .mov (.c (.int .i64 (-1))), none, []⟩,
      ⟨some 3, .mov (.c (.int .i64 2)), none, []⟩] false)
    (.ret))
    (.skip)))
  (.seq (.seq (.region [
    ⟨some 10, .fa 1 (.t 1), none, []⟩,
    ⟨some 11, .load none (.t 10), none, []⟩,
    ⟨some 12, .bin .int .lss (.t 11) (.c (.int .i64 0)), none, []⟩,
    ⟨some 13, .mov (.t 12), none, []⟩,
    ⟨some 14, .fa 1 (.t 1), (some (13, false)), []⟩,
    ⟨some 15, .load none (.t 14), (some (13, false)), []⟩,
    ⟨some 16, .bin .int .gtr (.t 15) (.c (.int .i64 9)), (some (13, false)), []⟩,
    ⟨some 17, .pick (.t 13) (.c (.bool true)) (.t 16), none, []⟩] false)
  (.cond (.t 17)
    (.seq (.region [
      ⟨some 2, .mov (.c (.int .i64 (-1))), none, []⟩,
      ⟨some 3, .mov (.c (.int .i64 1)), none, []⟩] false)
    (.ret))
    (.skip)))
  (.seq (.seq (.region [
    ⟨some 18, .fa 2 (.t 1), none, []⟩,
    ⟨some 19, .load none (.t 18), none, []⟩,
    ⟨some 20, .len false (.t 19), none, []⟩,
    ⟨some 21, .bin .int .gtr (.t 20) (.c (.int .i64 12)), none, []⟩] false)
  (.cond (.t 21)
    (.seq (.region [
      ⟨some 2, .mov (.c (.int .i64 (-1))), none, []⟩,
      ⟨some 3, .mov (.c (.int .i64 4)), none, []⟩] false)
    (.ret))
    (.skip)))
  (.seq (.seq (.region [
    ⟨some 22, .fa 2 (.t 1), none, []⟩,
    ⟨some 23, .load none (.t 22), none, []⟩,
    ⟨some 24, .len false (.t 23), none, []⟩,
    ⟨some 25, .bin .int .eql (.t 24) (.c (.int .i64 0)), none, []⟩] false)
  (.cond (.t 25)
    (.seq (.region [
      ⟨some 2, .mov (.c (.int .i64 (-1))), none, []⟩,
      ⟨some 3, .mov (.c (.int .i64 5)), none, []⟩] false)
    (.ret))
    (.skip)))
  (.seq (.seq (.region [
    ⟨some 4, .mov (.c (.int .i64 0)), none, []⟩] false)
  (.block 0 (.loop (.seq (.seq (.region [
        ⟨some 26, .mov (.t 4), none, []⟩,
        ⟨some 27, .fa 2 (.t 1), none, []⟩,
        ⟨some 28, .load none (.t 27), none, []⟩,
        ⟨some 29, .len false (.t 28), none, []⟩,
        ⟨some 30, .bin .int .lss (.t 26) (.t 29), none, []⟩] false)
      (.cond (.t 30)
        (.skip)
        (.exit 0)))
      (.seq (.block 1 (.seq (.region [
          ⟨some 33, .fa 2 (.t 1), none, []⟩,
          ⟨some 34, .load none (.t 33), none, []⟩,
          ⟨some 35, .mov (.t 4), none, []⟩,
          ⟨some 36, .ia 4 (.t 34) (.t 35), none, []⟩,
          ⟨some 37, .load (some 4) (.t 36), none, []⟩,
          ⟨some 5, .alloc [.string ⟨#[]⟩, .int .i64 0, .int .i64 0, .string ⟨#[]⟩], none, []⟩,
          ⟨none, .store 4 (.t 5) (.t 37), none, []⟩] false)
        (.seq (.seq (.region [
          ⟨some 38, .fa 0 (.t 5), none, []⟩,
          ⟨some 39, .load none (.t 38), none, []⟩,
          ⟨some 40, .call false [] 97 [(.t 39)], none, []⟩,
          ⟨some 41, .bin .int .neq (.t 40) (.c (.int .i64 0)), none, []⟩] false)
        (.cond (.t 41)
          (.seq (.region [
            ⟨some 42, .mov (.t 4), none, []⟩,
            ⟨some 2, .mov (.t 42), none, []⟩,
            ⟨some 3, .mov (.c (.int .i64 2)), none, []⟩] false)
          (.ret))
          (.skip)))
        (.seq (.seq (.region [
          ⟨some 43, .load (some 3) (.t 1), none, []⟩,
          ⟨some 44, .fa 0 (.t 5), none, []⟩,
          ⟨some 45, .load none (.t 44), none, []⟩,
          ⟨some 46, .call false [] 96 [(.t 43), (.t 45)], none, []⟩,
          ⟨some 47, .mov (.t 4), none, []⟩,
          ⟨some 48, .bin .int .lss (.t 46) (.t 47), none, []⟩] false)
        (.cond (.t 48)
          (.seq (.region [
            ⟨some 49, .mov (.t 4), none, []⟩,
            ⟨some 2, .mov (.t 49), none, []⟩,
            ⟨some 3, .mov (.c (.int .i64 7)), none, []⟩] false)
          (.ret))
          (.skip)))
        (.seq (.seq (.region [
          ⟨some 50, .fa 1 (.t 5), none, []⟩,
          ⟨some 51, .load none (.t 50), none, []⟩,
          ⟨some 52, .bin .int .lss (.t 51) (.c (.int .i64 (-1))), none, []⟩,
          ⟨some 53, .mov (.t 52), none, []⟩,
          ⟨some 54, .fa 1 (.t 5), (some (53, false)), []⟩,
          ⟨some 55, .load none (.t 54), (some (53, false)), []⟩,
          ⟨some 56, .mov (.t 4), (some (53, false)), []⟩,
          ⟨some 57, .bin .int .geq (.t 55) (.t 56), (some (53, false)), []⟩,
          ⟨some 58, .pick (.t 53) (.c (.bool true)) (.t 57), none, []⟩] false)
        (.cond (.t 58)
          (.seq (.region [
            ⟨some 59, .mov (.t 4), none, []⟩,
            ⟨some 2, .mov (.t 59), none, []⟩,
            ⟨some 3, .mov (.c (.int .i64 1)), none, []⟩] false)
          (.ret))
          (.skip)))
        (.seq (.seq (.region [
          ⟨some 60, .fa 1 (.t 5), none, []⟩,
          ⟨some 61, .load none (.t 60), none, []⟩,
          ⟨some 62, .bin .int .geq (.t 61) (.c (.int .i64 0)), none, []⟩,
          ⟨some 63, .mov (.t 62), none, []⟩,
          ⟨some 64, .fa 2 (.t 1), (some (63, true)), []⟩,
          ⟨some 65, .load none (.t 64), (some (63, true)), []⟩,
          ⟨some 66, .fa 1 (.t 5), (some (63, true)), []⟩,
          ⟨some 67, .load none (.t 66), (some (63, true)), []⟩,
          ⟨some 68, .ia 4 (.t 65) (.t 67), (some (63, true)), []⟩,
          ⟨some 69, .fa 3 (.t 68), (some (63, true)), []⟩,
          ⟨some 70, .load none (.t 69), (some (63, true)), []⟩,
          ⟨some 71, .bin .str .neq (.t 70) (.c (.string ⟨#[]⟩)), (some (63, true)), []⟩,
          ⟨some 72, .pick (.t 63) (.t 71) (.c (.bool false)), none, []⟩] false)
        (.cond (.t 72)
          (.seq (.region [
            ⟨some 73, .mov (.t 4), none, []⟩,
            ⟨some 2, .mov (.t 73), none, []⟩,
            ⟨some 3, .mov (.c (.int .i64 6)), none, []⟩] false)
          (.ret))
          (.skip)))
        (.seq (.seq (.region [
          ⟨some 74, .fa 2 (.t 5), none, []⟩,
          ⟨some 75, .load none (.t 74), none, []⟩,
          ⟨some 76, .bin .int .lss (.t 75) (.c (.int .i64 (-1))), none, []⟩,
          ⟨some 77, .mov (.t 76), none, []⟩,
          ⟨some 78, .fa 2 (.t 5), (some (77, false)), []⟩,
          ⟨some 79, .load none (.t 78), (some (77, false)), []⟩,
          ⟨some 80, .bin .int .gtr (.t 79) (.c (.int .i64 1)), (some (77, false)), []⟩,
          ⟨some 81, .pick (.t 77) (.c (.bool true)) (.t 80), none, []⟩] false)
        (.cond (.t 81)
          (.seq (.region [
            ⟨some 82, .mov (.t 4), none, []⟩,
            ⟨some 2, .mov (.t 82), none, []⟩,
            ⟨some 3, .mov (.c (.int .i64 1)), none, []⟩] false)
          (.ret))
          (.skip)))
        (.seq (.region [
          ⟨some 83, .fa 3 (.t 5), none, []⟩,
          ⟨some 84, .load none (.t 83), none, []⟩,
          ⟨some 85, .len true (.t 84), none, []⟩,
          ⟨some 86, .bin .int .gtr (.t 85) (.c (.int .i64 100)), none, []⟩] false)
        (.cond (.t 86)
          (.seq (.region [
            ⟨some 87, .mov (.t 4), none, []⟩,
            ⟨some 2, .mov (.t 87), none, []⟩,
            ⟨some 3, .mov (.c (.int .i64 4)), none, []⟩] false)
          (.ret))
          (.skip))))))))))
      (.region [
        ⟨some 31, .mov (.t 4), none, []⟩,
        ⟨some 32, .bin .int .add (.t 31) (.c (.int .i64 1)), none, []⟩,
        ⟨some 4, .mov (.t 32), none, []⟩] false))))))
  (.seq (.region [
    ⟨some 2, .mov (.c (.int .i64 (-1))), none, []⟩,
    ⟨some 3, .mov (.c (.int .i64 0)), none, []⟩] false)
  (.ret)))))))
def f95 : AFunc := { np := 1, nt := 88, res := [.tmp 2, .tmp 3], muts := [], own := false, body := b95 }

/- tallyhall/tallyref1.Where -/
def b96 : ACode :=
  .seq (.region [
    ⟨some 2, .box (.t 0), none, []⟩,
    ⟨some 4, .mov (.c (.int .i64 0)), none, []⟩] false)
  (.seq (.seq (.region [
    ⟨some 5, .mov (.c (.int .i64 0)), none, []⟩] false)
  (.block 0 (.loop (.seq (.seq (.region [
        ⟨some 6, .mov (.t 5), none, []⟩,
        ⟨some 7, .fa 2 (.t 2), none, []⟩,
        ⟨some 8, .load none (.t 7), none, []⟩,
        ⟨some 9, .len false (.t 8), none, []⟩,
        ⟨some 10, .bin .int .lss (.t 6) (.t 9), none, []⟩] false)
      (.cond (.t 10)
        (.skip)
        (.exit 0)))
      (.seq (.block 1 (.seq (.region [
          ⟨some 13, .fa 2 (.t 2), none, []⟩,
          ⟨some 14, .load none (.t 13), none, []⟩,
          ⟨some 15, .mov (.t 5), none, []⟩,
          ⟨some 16, .ia 4 (.t 14) (.t 15), none, []⟩,
          ⟨some 17, .fa 0 (.t 16), none, []⟩,
          ⟨some 18, .load none (.t 17), none, []⟩,
          ⟨some 19, .mov (.t 1), none, []⟩,
          ⟨some 20, .bin .str .eql (.t 18) (.t 19), none, []⟩] false)
        (.cond (.t 20)
          (.seq (.region [
            ⟨some 21, .mov (.t 5), none, []⟩,
            ⟨some 4, .mov (.t 21), none, []⟩] false)
          (.ret))
          (.skip))))
      (.region [
        ⟨some 11, .mov (.t 5), none, []⟩,
        ⟨some 12, .bin .int .add (.t 11) (.c (.int .i64 1)), none, []⟩,
        ⟨some 5, .mov (.t 12), none, []⟩] false))))))
  (.seq (.region [
    ⟨some 4, .mov (.c (.int .i64 (-1))), none, []⟩] false)
  (.ret)))
def f96 : AFunc := { np := 2, nt := 22, res := [.tmp 4], muts := [], own := false, body := b96 }

/- tallyhall/tallyref1.Name -/
def b97 : ACode :=
  .seq (.region [
    ⟨some 2, .mov (.c (.int .i64 0)), none, []⟩] false)
  (.seq (.seq (.region [
    ⟨some 4, .mov (.t 0), none, []⟩,
    ⟨some 5, .bin .str .eql (.t 4) (.c (.string ⟨#[]⟩)), none, []⟩,
    ⟨some 6, .mov (.t 5), none, []⟩,
    ⟨some 7, .mov (.t 0), (some (6, false)), []⟩,
    ⟨some 8, .len true (.t 7), (some (6, false)), []⟩,
    ⟨some 9, .bin .int .gtr (.t 8) (.c (.int .i64 8)), (some (6, false)), []⟩,
    ⟨some 10, .pick (.t 6) (.c (.bool true)) (.t 9), none, []⟩] false)
  (.cond (.t 10)
    (.seq (.region [
      ⟨some 2, .mov (.c (.int .i64 2)), none, []⟩] false)
    (.ret))
    (.skip)))
  (.seq (.seq (.region [
    ⟨some 3, .mov (.c (.int .i64 0)), none, []⟩] false)
  (.block 0 (.loop (.seq (.seq (.region [
        ⟨some 11, .mov (.t 3), none, []⟩,
        ⟨some 12, .mov (.t 0), none, []⟩,
        ⟨some 13, .len true (.t 12), none, []⟩,
        ⟨some 14, .bin .int .lss (.t 11) (.t 13), none, []⟩] false)
      (.cond (.t 14)
        (.skip)
        (.exit 0)))
      (.seq (.block 1 (.seq (.region [
          ⟨some 17, .mov (.t 0), none, []⟩,
          ⟨some 18, .mov (.t 3), none, []⟩,
          ⟨some 19, .ix (.t 17) (.t 18), none, []⟩,
          ⟨some 20, .bin .int .lss (.t 19) (.c (.int .u8 97)), none, []⟩,
          ⟨some 21, .mov (.t 20), none, []⟩,
          ⟨some 22, .mov (.t 0), (some (21, false)), []⟩,
          ⟨some 23, .mov (.t 3), (some (21, false)), []⟩,
          ⟨some 24, .ix (.t 22) (.t 23), (some (21, false)), []⟩,
          ⟨some 25, .bin .int .gtr (.t 24) (.c (.int .u8 122)), (some (21, false)), []⟩,
          ⟨some 26, .pick (.t 21) (.c (.bool true)) (.t 25), none, []⟩] false)
        (.cond (.t 26)
          (.seq (.region [
            ⟨some 2, .mov (.c (.int .i64 2)), none, []⟩] false)
          (.ret))
          (.skip))))
      (.region [
        ⟨some 15, .mov (.t 3), none, []⟩,
        ⟨some 16, .bin .int .add (.t 15) (.c (.int .i64 1)), none, []⟩,
        ⟨some 3, .mov (.t 16), none, []⟩] false))))))
  (.seq (.region [
    ⟨some 2, .mov (.c (.int .i64 0)), none, []⟩] false)
  (.ret))))
def f97 : AFunc := { np := 1, nt := 27, res := [.tmp 2], muts := [], own := false, body := b97 }

/- tallyhall/place.Of -/
def b98 : ACode :=
  .seq (.region [
    ⟨some 2, .box (.t 0), none, []⟩,
    ⟨some 4, .mov (.c (.slice none 0 0)), none, []⟩,
    ⟨some 5, .mov (.c (.nilIface)), none, []⟩] false)
  (.seq (.seq (.region [
    ⟨some 7, .load (some 1) (.t 2), none, []⟩,
    ⟨some 8, .call false [] 51 [(.t 7)], none, []⟩,
    ⟨some 6, .mov (.t 8), none, []⟩] false)
  (.seq (.region [
    ⟨some 9, .mov (.t 6), none, []⟩,
    ⟨some 10, .eqn false true (.t 9), none, []⟩] false)
  (.cond (.t 10)
    (.seq (.region [
      ⟨some 11, .mov (.t 6), none, []⟩,
      ⟨some 4, .mov (.c (.slice none 0 0)), none, []⟩,
      ⟨some 5, .mov (.t 11), none, []⟩] false)
    (.ret))
    (.skip))))
  (.seq (.seq (.region [
    ⟨some 12, .mov (.t 1), none, []⟩,
    ⟨some 13, .bin .int .lss (.t 12) (.c (.int .i64 0)), none, []⟩,
    ⟨some 14, .mov (.t 13), none, []⟩,
    ⟨some 15, .mov (.t 1), (some (14, false)), []⟩,
    ⟨some 16, .load (some 1) (.t 2), (some (14, false)), []⟩,
    ⟨some 17, .call false [] 40 [(.t 16)], (some (14, false)), []⟩,
    ⟨some 18, .bin .int .geq (.t 15) (.t 17), (some (14, false)), []⟩,
    ⟨some 19, .pick (.t 14) (.c (.bool true)) (.t 18), none, []⟩] false)
  (.cond (.t 19)
    (.seq (.region [
      ⟨some 20, .ifc 1 (.c (.int .i64 1)), none, []⟩,
      ⟨some 4, .mov (.c (.slice none 0 0)), none, []⟩,
      ⟨some 5, .mov (.t 20), none, []⟩] false)
    (.ret))
    (.skip)))
  (.seq (.region [
    ⟨some 21, .load (some 1) (.t 2), none, []⟩,
    ⟨some 22, .mov (.t 1), none, []⟩,
    ⟨some 23, .call true [] 69 [(.t 21), (.t 22)], none, []⟩,
    ⟨some 4, .mov (.t 23), none, []⟩,
    ⟨some 5, .mov (.c (.nilIface)), none, []⟩] false)
  (.ret))))
def f98 : AFunc := { np := 2, nt := 24, res := [.tmp 4, .tmp 5], muts := [], own := false, body := b98 }

/- tallyhall/tree.Depth -/
def b99 : ACode :=
  .seq (.region [
    ⟨some 1, .box (.t 0), none, []⟩,
    ⟨some 2, .mov (.c (.int .i64 0)), none, []⟩,
    ⟨some 3, .mov (.c (.nilIface)), none, []⟩] false)
  (.seq (.seq (.region [
    ⟨some 7, .load (some 3) (.t 1), none, []⟩,
    ⟨some 8, .call false [] 43 [(.t 7), (.c (.slice none 0 0))], none, []⟩,
    ⟨some 4, .mov (.t 8), none, []⟩] false)
  (.seq (.region [
    ⟨some 9, .mov (.t 4), none, []⟩,
    ⟨some 10, .eqn false true (.t 9), none, []⟩] false)
  (.cond (.t 10)
    (.seq (.region [
      ⟨some 11, .mov (.t 4), none, []⟩,
      ⟨some 2, .mov (.c (.int .i64 0)), none, []⟩,
      ⟨some 3, .mov (.t 11), none, []⟩] false)
    (.ret))
    (.skip))))
  (.seq (.region [
    ⟨some 5, .mov (.c (.int .i64 0)), none, []⟩] false)
  (.seq (.seq (.region [
    ⟨some 12, .fa 2 (.t 1), none, []⟩,
    ⟨some 13, .load none (.t 12), none, []⟩,
    ⟨some 14, .len false (.t 13), none, []⟩,
    ⟨some 15, .mov (.c (.int .i64 0)), none, []⟩] false)
  (.block 0 (.loop (.seq (.region [
        ⟨some 16, .bin .int .lss (.t 15) (.t 14), none, []⟩] false)
      (.seq (.cond (.t 16)
        (.skip)
        (.exit 0))
      (.seq (.block 1 (.seq (.region [
          ⟨some 17, .mov (.t 15), none, []⟩,
          ⟨some 6, .mov (.t 17), none, []⟩] false)
        (.region [
          ⟨some 18, .mov (.t 5), none, []⟩,
          ⟨some 19, .load (some 3) (.t 1), none, []⟩,
          ⟨some 20, .mov (.t 6), none, []⟩,
          ⟨some 21, .call true [] 48 [(.t 19), (.t 20)], none, []⟩,
          ⟨some 22, .len false (.t 21), none, []⟩,
          ⟨some 23, .max2 (.t 18) (.t 22), none, []⟩,
          ⟨some 5, .mov (.t 23), none, []⟩] false)))
      (.region [
        ⟨some 24, .bin .int .add (.t 15) (.c (.int .i64 1)), none, []⟩,
        ⟨some 15, .mov (.t 24), none, []⟩] false)))))))
  (.seq (.region [
    ⟨some 25, .mov (.t 5), none, []⟩,
    ⟨some 2, .mov (.t 25), none, []⟩,
    ⟨some 3, .mov (.c (.nilIface)), none, []⟩] false)
  (.ret)))))
def f99 : AFunc := { np := 1, nt := 26, res := [.tmp 2, .tmp 3], muts := [], own := false, body := b99 }

/- tallyhall/tallyref1.Parts -/
def b100 : ACode :=
  .seq (.region [
    ⟨some 2, .box (.t 0), none, []⟩,
    ⟨some 4, .mov (.c (.slice none 0 0)), none, []⟩] false)
  (.seq (.region [
    ⟨some 5, .mov (.c (.slice none 0 0)), none, []⟩] false)
  (.seq (.seq (.region [
    ⟨some 6, .mov (.c (.int .i64 0)), none, []⟩] false)
  (.block 0 (.loop (.seq (.seq (.region [
        ⟨some 7, .mov (.t 6), none, []⟩,
        ⟨some 8, .fa 2 (.t 2), none, []⟩,
        ⟨some 9, .load none (.t 8), none, []⟩,
        ⟨some 10, .len false (.t 9), none, []⟩,
        ⟨some 11, .bin .int .lss (.t 7) (.t 10), none, []⟩] false)
      (.cond (.t 11)
        (.skip)
        (.exit 0)))
      (.seq (.block 1 (.seq (.region [
          ⟨some 14, .fa 2 (.t 2), none, []⟩,
          ⟨some 15, .load none (.t 14), none, []⟩,
          ⟨some 16, .mov (.t 6), none, []⟩,
          ⟨some 17, .ia 4 (.t 15) (.t 16), none, []⟩,
          ⟨some 18, .fa 1 (.t 17), none, []⟩,
          ⟨some 19, .load none (.t 18), none, []⟩,
          ⟨some 20, .mov (.t 1), none, []⟩,
          ⟨some 21, .bin .int .eql (.t 19) (.t 20), none, []⟩] false)
        (.cond (.t 21)
          (.region [
            ⟨some 22, .mov (.t 5), none, []⟩,
            ⟨some 23, .mov (.t 6), none, []⟩,
            ⟨some 24, .bslice false 1 [.int .i64 0] 1 [(0, (.t 23))], none, []⟩,
            ⟨some 25, .app 1 (.t 22) (.t 24), none, []⟩,
            ⟨some 5, .mov (.t 25), none, []⟩] false)
          (.skip))))
      (.region [
        ⟨some 12, .mov (.t 6), none, []⟩,
        ⟨some 13, .bin .int .add (.t 12) (.c (.int .i64 1)), none, []⟩,
        ⟨some 6, .mov (.t 13), none, []⟩] false))))))
  (.seq (.region [
    ⟨some 26, .mov (.t 5), none, []⟩,
    ⟨some 4, .mov (.t 26), none, []⟩] false)
  (.ret))))
def f100 : AFunc := { np := 2, nt := 27, res := [.tmp 4], muts := [], own := false, body := b100 }

/- tallyhall/tallyref1.Leafs -/
def b101 : ACode :=
  .seq (.region [
    ⟨some 2, .box (.t 0), none, []⟩,
    ⟨some 4, .mov (.c (.slice none 0 0)), none, []⟩] false)
  (.seq (.region [
    ⟨some 5, .mov (.c (.slice none 0 0)), none, []⟩] false)
  (.seq (.seq (.region [
    ⟨some 6, .mov (.c (.int .i64 0)), none, []⟩] false)
  (.block 0 (.loop (.seq (.seq (.region [
        ⟨some 10, .mov (.t 6), none, []⟩,
        ⟨some 11, .fa 2 (.t 2), none, []⟩,
        ⟨some 12, .load none (.t 11), none, []⟩,
        ⟨some 13, .len false (.t 12), none, []⟩,
        ⟨some 14, .bin .int .lss (.t 10) (.t 13), none, []⟩] false)
      (.cond (.t 14)
        (.skip)
        (.exit 0)))
      (.seq (.block 1 (.seq (.region [
          ⟨some 17, .load (some 3) (.t 2), none, []⟩,
          ⟨some 18, .mov (.t 6), none, []⟩,
          ⟨some 19, .call false [] 102 [(.t 17), (.t 18)], none, []⟩,
          ⟨some 7, .mov (.t 19), none, []⟩] false)
        (.seq (.region [
          ⟨some 21, .load (some 3) (.t 2), none, []⟩,
          ⟨some 22, .mov (.t 1), none, []⟩,
          ⟨some 23, .mov (.t 6), none, []⟩,
          ⟨some 24, .call false [] 103 [(.t 21), (.t 22), (.t 23)], none, []⟩,
          ⟨some 20, .mov (.t 24), none, []⟩,
          ⟨some 25, .ext (.t 20) 0, none, []⟩,
          ⟨some 26, .ext (.t 20) 1, none, []⟩,
          ⟨some 8, .mov (.t 25), none, []⟩,
          ⟨some 9, .mov (.t 26), none, []⟩] false)
        (.seq (.region [
          ⟨some 27, .mov (.t 7), none, []⟩,
          ⟨some 28, .mov (.t 27), none, []⟩,
          ⟨some 29, .mov (.t 9), (some (28, true)), []⟩,
          ⟨some 30, .pick (.t 28) (.t 29) (.c (.bool false)), none, []⟩] false)
        (.cond (.t 30)
          (.region [
            ⟨some 31, .mov (.t 5), none, []⟩,
            ⟨some 32, .mov (.t 6), none, []⟩,
            ⟨some 33, .bslice false 1 [.int .i64 0] 1 [(0, (.t 32))], none, []⟩,
            ⟨some 34, .app 1 (.t 31) (.t 33), none, []⟩,
            ⟨some 5, .mov (.t 34), none, []⟩] false)
          (.skip))))))
      (.region [
        ⟨some 15, .mov (.t 6), none, []⟩,
        ⟨some 16, .bin .int .add (.t 15) (.c (.int .i64 1)), none, []⟩,
        ⟨some 6, .mov (.t 16), none, []⟩] false))))))
  (.seq (.region [
    ⟨some 35, .mov (.t 5), none, []⟩,
    ⟨some 4, .mov (.t 35), none, []⟩] false)
  (.ret))))
def f101 : AFunc := { np := 2, nt := 36, res := [.tmp 4], muts := [], own := false, body := b101 }

/- tallyhall/tallyref1.Leaf -/
def b102 : ACode :=
  .seq (.region [
    ⟨some 2, .box (.t 0), none, []⟩,
    ⟨some 4, .mov (.c (.bool false)), none, []⟩] false)
  (.seq (.region [
    ⟨some 5, .fa 2 (.t 2), none, []⟩,
    ⟨some 6, .load none (.t 5), none, []⟩,
    ⟨some 7, .mov (.t 1), none, []⟩,
    ⟨some 8, .ia 4 (.t 6) (.t 7), none, []⟩,
    ⟨some 9, .fa 3 (.t 8), none, []⟩,
    ⟨some 10, .load none (.t 9), none, []⟩,
    ⟨some 11, .bin .str .eql (.t 10) (.c (.string ⟨#[]⟩)), none, []⟩,
    ⟨some 12, .mov (.t 11), none, []⟩,
    ⟨some 13, .load (some 3) (.t 2), (some (12, true)), []⟩,
    ⟨some 14, .mov (.t 1), (some (12, true)), []⟩,
    ⟨some 15, .call true [] 100 [(.t 13), (.t 14)], (some (12, true)), []⟩,
    ⟨some 16, .len false (.t 15), (some (12, true)), []⟩,
    ⟨some 17, .bin .int .eql (.t 16) (.c (.int .i64 0)), (some (12, true)), []⟩,
    ⟨some 18, .pick (.t 12) (.t 17) (.c (.bool false)), none, []⟩,
    ⟨some 4, .mov (.t 18), none, []⟩] false)
  (.ret))
def f102 : AFunc := { np := 2, nt := 19, res := [.tmp 4], muts := [], own := false, body := b102 }

/- tallyhall/tallyref1.Weight -/
def b103 : ACode :=
  .seq (.region [
    ⟨some 3, .box (.t 0), none, []⟩,
    ⟨some 6, .mov (.c (.int .i64 0)), none, []⟩,
    ⟨some 7, .mov (.c (.bool false)), none, []⟩] false)
  (.seq (.region [
    ⟨some 8, .mov (.c (.int .i64 1)), none, []⟩] false)
  (.seq (.block 0 (.loop (.seq (.seq (.region [
        ⟨some 9, .mov (.t 2), none, []⟩,
        ⟨some 10, .mov (.t 1), none, []⟩,
        ⟨some 11, .bin .int .neq (.t 9) (.t 10), none, []⟩] false)
      (.cond (.t 11)
        (.skip)
        (.exit 0)))
      (.block 1 (.seq (.seq (.region [
          ⟨some 12, .mov (.t 2), none, []⟩,
          ⟨some 13, .bin .int .lss (.t 12) (.c (.int .i64 0)), none, []⟩] false)
        (.cond (.t 13)
          (.seq (.region [
            ⟨some 6, .mov (.c (.int .i64 0)), none, []⟩,
            ⟨some 7, .mov (.c (.bool false)), none, []⟩] false)
          (.ret))
          (.skip)))
        (.seq (.region [
          ⟨some 14, .mov (.t 8), none, []⟩,
          ⟨some 15, .fa 2 (.t 3), none, []⟩,
          ⟨some 16, .load none (.t 15), none, []⟩,
          ⟨some 17, .mov (.t 2), none, []⟩,
          ⟨some 18, .ia 4 (.t 16) (.t 17), none, []⟩,
          ⟨some 19, .fa 2 (.t 18), none, []⟩,
          ⟨some 20, .load none (.t 19), none, []⟩,
          ⟨some 21, .bin .int .mul (.t 14) (.t 20), none, []⟩,
          ⟨some 8, .mov (.t 21), none, []⟩] false)
        (.region [
          ⟨some 22, .fa 2 (.t 3), none, []⟩,
          ⟨some 23, .load none (.t 22), none, []⟩,
          ⟨some 24, .mov (.t 2), none, []⟩,
          ⟨some 25, .ia 4 (.t 23) (.t 24), none, []⟩,
          ⟨some 26, .fa 1 (.t 25), none, []⟩,
          ⟨some 27, .load none (.t 26), none, []⟩,
          ⟨some 2, .mov (.t 27), none, []⟩] false)))))))
  (.seq (.region [
    ⟨some 28, .mov (.t 8), none, []⟩,
    ⟨some 6, .mov (.t 28), none, []⟩,
    ⟨some 7, .mov (.c (.bool true)), none, []⟩] false)
  (.ret))))
def f103 : AFunc := { np := 3, nt := 29, res := [.tmp 6, .tmp 7], muts := [], own := false, body := b103 }

/- tallyhall/tallysame.Ints -/
def b104 : ACode :=
  .seq (.region [
    ⟨some 4, .mov (.c (.bool false)), none, []⟩] false)
  (.seq (.seq (.region [
    ⟨some 6, .mov (.t 0), none, []⟩,
    ⟨some 7, .len false (.t 6), none, []⟩,
    ⟨some 8, .mov (.t 1), none, []⟩,
    ⟨some 9, .len false (.t 8), none, []⟩,
    ⟨some 10, .bin .int .neq (.t 7) (.t 9), none, []⟩] false)
  (.cond (.t 10)
    (.seq (.region [
      ⟨some 4, .mov (.c (.bool false)), none, []⟩] false)
    (.ret))
    (.skip)))
  (.seq (.seq (.region [
    ⟨some 5, .mov (.c (.int .i64 0)), none, []⟩] false)
  (.block 0 (.loop (.seq (.seq (.region [
        ⟨some 11, .mov (.t 5), none, []⟩,
        ⟨some 12, .mov (.t 0), none, []⟩,
        ⟨some 13, .len false (.t 12), none, []⟩,
        ⟨some 14, .bin .int .lss (.t 11) (.t 13), none, []⟩] false)
      (.cond (.t 14)
        (.skip)
        (.exit 0)))
      (.seq (.block 1 (.seq (.region [
          ⟨some 17, .mov (.t 0), none, []⟩,
          ⟨some 18, .mov (.t 5), none, []⟩,
          ⟨some 19, .ia 1 (.t 17) (.t 18), none, [0, 1]⟩,
          ⟨some 20, .load none (.t 19), none, [2]⟩,
          ⟨some 21, .mov (.t 1), none, []⟩,
          ⟨some 22, .mov (.t 5), none, []⟩,
          ⟨some 23, .ia 1 (.t 21) (.t 22), none, [4, 5]⟩,
          ⟨some 24, .load none (.t 23), none, [6]⟩,
          ⟨some 25, .bin .int .neq (.t 20) (.t 24), none, [3, 7]⟩] true)
        (.cond (.t 25)
          (.seq (.region [
            ⟨some 4, .mov (.c (.bool false)), none, []⟩] false)
          (.ret))
          (.skip))))
      (.region [
        ⟨some 15, .mov (.t 5), none, []⟩,
        ⟨some 16, .bin .int .add (.t 15) (.c (.int .i64 1)), none, []⟩,
        ⟨some 5, .mov (.t 16), none, []⟩] false))))))
  (.seq (.region [
    ⟨some 4, .mov (.c (.bool true)), none, []⟩] false)
  (.ret))))
def f104 : AFunc := { np := 2, nt := 26, res := [.tmp 4], muts := [], own := false, body := b104 }

/- tallyhall/tallyref1.Size -/
def b106 : ACode :=
  .seq (.region [
    ⟨some 1, .box (.t 0), none, []⟩,
    ⟨some 2, .mov (.c (.int .i64 0)), none, []⟩] false)
  (.seq (.region [
    ⟨some 3, .mov (.c (.int .i64 1)), none, []⟩] false)
  (.seq (.seq (.region [
    ⟨some 4, .mov (.c (.int .i64 0)), none, []⟩] false)
  (.block 0 (.loop (.seq (.seq (.region [
        ⟨some 5, .mov (.t 4), none, []⟩,
        ⟨some 6, .fa 0 (.t 1), none, []⟩,
        ⟨some 7, .load none (.t 6), none, []⟩,
        ⟨some 8, .len false (.t 7), none, []⟩,
        ⟨some 9, .bin .int .lss (.t 5) (.t 8), none, []⟩] false)
      (.cond (.t 9)
        (.skip)
        (.exit 0)))
      (.seq (.block 1 (.region [
          ⟨some 12, .mov (.t 3), none, []⟩,
          ⟨some 13, .fa 0 (.t 1), none, []⟩,
          ⟨some 14, .load none (.t 13), none, []⟩,
          ⟨some 15, .mov (.t 4), none, []⟩,
          ⟨some 16, .ia 3 (.t 14) (.t 15), none, []⟩,
          ⟨some 17, .fa 2 (.t 16), none, []⟩,
          ⟨some 18, .load none (.t 17), none, []⟩,
          ⟨some 19, .len false (.t 18), none, []⟩,
          ⟨some 20, .bin .int .mul (.t 12) (.t 19), none, []⟩,
          ⟨some 3, .mov (.t 20), none, []⟩] false))
      (.region [
        ⟨some 10, .mov (.t 4), none, []⟩,
        ⟨some 11, .bin .int .add (.t 10) (.c (.int .i64 1)), none, []⟩,
        ⟨some 4, .mov (.t 11), none, []⟩] false))))))
  (.seq (.region [
    ⟨some 21, .mov (.t 3), none, []⟩,
    ⟨some 2, .mov (.t 21), none, []⟩] false)
  (.ret))))
def f106 : AFunc := { np := 1, nt := 22, res := [.tmp 2], muts := [], own := false, body := b106 }

def G : Nat → Option AFunc
  | 0 => some f0
  | 1 => some f1
  | 2 => some f2
  | 3 => some f3
  | 4 => some f4
  | 5 => some f5
  | 6 => some f6
  | 7 => some f7
  | 8 => some f8
  | 9 => some f9
  | 10 => some f10
  | 11 => some f11
  | 12 => some f12
  | 13 => some f13
  | 14 => some f14
  | 15 => some f15
  | 16 => some f16
  | 17 => some f17
  | 18 => some f18
  | 19 => some f19
  | 20 => some f20
  | 21 => some f21
  | 22 => some f22
  | 23 => some f23
  | 24 => some f24
  | 25 => some f25
  | 26 => some f26
  | 27 => some f27
  | 28 => some f28
  | 29 => some f29
  | 30 => some f30
  | 31 => some f31
  | 32 => some f32
  | 33 => some f33
  | 34 => some f34
  | 35 => some f35
  | 36 => some f36
  | 37 => some f37
  | 38 => some f38
  | 39 => some f39
  | 40 => some f40
  | 41 => some f41
  | 42 => some f42
  | 43 => some f43
  | 44 => some f44
  | 45 => some f45
  | 46 => some f46
  | 47 => some f47
  | 48 => some f48
  | 49 => some f49
  | 50 => some f50
  | 51 => some f51
  | 52 => some f52
  | 54 => some f54
  | 55 => some f55
  | 56 => some f56
  | 57 => some f57
  | 58 => some f58
  | 59 => some f59
  | 60 => some f60
  | 61 => some f61
  | 62 => some f62
  | 63 => some f63
  | 64 => some f64
  | 65 => some f65
  | 66 => some f66
  | 67 => some f67
  | 68 => some f68
  | 69 => some f69
  | 70 => some f70
  | 72 => some f72
  | 73 => some f73
  | 74 => some f74
  | 75 => some f75
  | 81 => some f81
  | 83 => some f83
  | 84 => some f84
  | 85 => some f85
  | 86 => some f86
  | 88 => some f88
  | 89 => some f89
  | 90 => some f90
  | 91 => some f91
  | 92 => some f92
  | 93 => some f93
  | 94 => some f94
  | 95 => some f95
  | 96 => some f96
  | 97 => some f97
  | 98 => some f98
  | 99 => some f99
  | 100 => some f100
  | 101 => some f101
  | 102 => some f102
  | 103 => some f103
  | 104 => some f104
  | 106 => some f106
  | _ => none

end Ab
