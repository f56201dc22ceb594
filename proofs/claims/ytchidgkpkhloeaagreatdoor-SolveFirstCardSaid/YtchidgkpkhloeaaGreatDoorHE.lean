import Derived.Test.YtchidgkpkhloeaaGreatDoorB2
import Derived.KernelRfl
import Derived.Test.YtchidgkpkhloeaaGreatDoorHB
import Derived.Test.YtchidgkpkhloeaaGreatDoorHD
import Derived.Test.YtchidgkpkhloeaaGreatDoorC3
section
namespace Ab
open Go
set_option linter.unusedVariables false
set_option maxRecDepth 100000
end Ab
end
section
namespace Ab
open Go
set_option linter.unusedVariables false
set_option maxRecDepth 100000
def tc298:TCode :=
 .seq (.region [
 oq 4 (.alloc [.int .i64 0,.int .i64 0])] [] false)
  (.seq (.region [
 oq 8 (.mov (.t 0)),
 oq 9 (.len false (.t 8)),
 oq 10 (.mksl 2 [.int .i64 0,.int .i64 0] (.t 9) (.t 9)),
 oq 5 (.mov (.t 10))] [.int,.int,.cell] false)
  (.seq (.seq (.region [
 oq 11 (.mov (.t 0)),
 oq 12 (.len false (.t 11)),
 oq 13 (.mov (.c (.int .i64 0)))] [] false)
  (.loop ⟨[.slot 13 .int,.rowH 10 .cell],[6,7,14,15,16,17,18,19,20,21,22,23,24,25,26,27,28,29,30,31,32,33,34,35,36,37,38,39,40,41,42,43,44,45,46,47,48,49,50,51,52,53,54,55,56,57,58,59,60,61,62,63,64,65,66,67,68,69,70,71,72,73,74,75,76,77,78,79,80,81,82,83,84,85,86,87,88,89,90,91,92,93,94,95,96,97,98,99],[7],[]⟩ 0 (.seq (.region [
 oq 14 (.bin .int .lss (.t 13) (.t 12))] [] false)
    (.seq (.cond (.t 14)
     (.skip)
     (.exit 0))
    (.seq (.block 1 (.seq (.region [
 oq 15 (.mov (.t 13)),
 oq 16 (.ia 5 (.t 11) (.t 13)),
 oq 17 (.load (some 5) (.t 16)),
 oq 7 (.alloc [.int .i64 0,.int .i64 0,.string ⟨#[]⟩,.int .i64 0,.int .i64 0]),
 oq 6 (.mov (.t 15)),
  ⟨none,.store 5 (.t 7) (.t 17),none,[]⟩] [] false)
    (.seq (.region [
 oq 18 (.fa 0 (.t 7)),
 oq 19 (.load none (.t 18))] [] false)
   (.block 2 (.seq (.region [
 oq 35 (.bin .int .eql (.t 19) (.c (.int .i64 1))),
 oq 34 (.mov (.t 35))] [] false)
   (.condJ ⟨[.rowH 10 .cell],[20,21,22,23,24,25,26,27,28,29,30,31,32,33,36,37,38,39,40,41,42,43,44,45,46,47,48,49,50,51,52,53,54,55,56,57,58,59,60,61,62,63,64,65,66,67,68,69,70,71,72,73,74,75,76,77,78,79,80,81,82,83,84,85,86,87,88,89,90,91,92,93,94,95,96,97,98],[],[]⟩ (.t 34)
    (.region [
 oq 36 (.mov (.t 5)),
 oq 37 (.mov (.t 6)),
 oq 38 (.fa 1 (.t 7)),
 oq 39 (.load none (.t 38)),
 oq 40 (.call false [] 8 [(.t 39)]),
 oq 41 (.ia 2 (.t 36) (.t 37)),
  ⟨none,.store 2 (.t 41) (.t 40),none,[]⟩] [] false)
    (.seq (.region [
 oq 43 (.bin .int .eql (.t 19) (.c (.int .i64 2))),
 oq 42 (.mov (.t 43))] [] false)
   (.condJ ⟨[.rowH 10 .cell],[20,21,22,23,24,25,26,27,28,29,30,31,32,33,44,45,46,47,48,49,50,51,52,53,54,55,56,57,58,59,60,61,62,63,64,65,66,67,68,69,70,71,72,73,74,75,76,77,78,79,80,81,82,83,84,85,86,87,88,89,90,91,92,93,94,95,96,97,98],[],[]⟩ (.t 42)
    (.region [
 oq 44 (.mov (.t 5)),
 oq 45 (.mov (.t 6)),
 oq 46 (.mov (.t 1)),
 oq 47 (.fa 2 (.t 7)),
 oq 48 (.load none (.t 47)),
 oq 49 (.calld false (.t 46) [(.t 48)]),
 oq 50 (.ia 2 (.t 44) (.t 45)),
  ⟨none,.store 2 (.t 50) (.t 49),none,[]⟩] [] false)
    (.seq (.region [
 oq 52 (.bin .int .eql (.t 19) (.c (.int .i64 3))),
 oq 51 (.mov (.t 52))] [] false)
   (.condJ ⟨[.rowH 10 .cell],[20,21,22,23,24,25,26,27,28,29,30,31,32,33,53,54,55,56,57,58,59,60,61,62,63,64,65,66,67,68,69,70,71,72,73,74,75,76,77,78,79,80,81,82,83,84,85,86,87,88,89,90,91,92,93,94,95,96,97,98],[],[]⟩ (.t 51)
    (.region [
 oq 53 (.mov (.t 5)),
 oq 54 (.mov (.t 6)),
 oq 55 (.mov (.t 5)),
 oq 56 (.fa 3 (.t 7)),
  ⟨some 57,.load none (.t 56),none,[3]⟩,
  ⟨some 58,.ia 2 (.t 55) (.t 57),none,[2,4]⟩,
  ⟨some 59,.load (some 2) (.t 58),none,[5]⟩,
 oq 60 (.mov (.t 5)),
 oq 61 (.fa 4 (.t 7)),
  ⟨some 62,.load none (.t 61),none,[8]⟩,
  ⟨some 63,.ia 2 (.t 60) (.t 62),none,[7,9]⟩,
  ⟨some 64,.load (some 2) (.t 63),none,[10]⟩,
  ⟨some 65,.call false [] 33 [(.t 59),(.t 64),(.c (.int .i64 1))],none,[6,11]⟩,
  ⟨some 66,.ia 2 (.t 53) (.t 54),none,[0,1,0,1,2,3,4,5,6,7,8,9,10,11,12]⟩,
  ⟨none,.store 2 (.t 66) (.t 65),none,[13,12,12,0,1,2,3,4,5,6,7,8,9,10,11,12]⟩] [] true)
    (.seq (.region [
 oq 68 (.bin .int .eql (.t 19) (.c (.int .i64 4))),
 oq 67 (.mov (.t 68))] [] false)
   (.condJ ⟨[.rowH 10 .cell],[20,21,22,23,24,25,26,27,28,29,30,31,32,33,69,70,71,72,73,74,75,76,77,78,79,80,81,82,83,84,85,86,87,88,89,90,91,92,93,94,95,96,97,98],[],[]⟩ (.t 67)
    (.region [
 oq 69 (.mov (.t 5)),
 oq 70 (.mov (.t 6)),
 oq 71 (.mov (.t 5)),
 oq 72 (.fa 3 (.t 7)),
  ⟨some 73,.load none (.t 72),none,[3]⟩,
  ⟨some 74,.ia 2 (.t 71) (.t 73),none,[2,4]⟩,
  ⟨some 75,.load (some 2) (.t 74),none,[5]⟩,
 oq 76 (.mov (.t 5)),
 oq 77 (.fa 4 (.t 7)),
  ⟨some 78,.load none (.t 77),none,[8]⟩,
  ⟨some 79,.ia 2 (.t 76) (.t 78),none,[7,9]⟩,
  ⟨some 80,.load (some 2) (.t 79),none,[10]⟩,
  ⟨some 81,.call false [] 33 [(.t 75),(.t 80),(.c (.int .i64 (-1)))],none,[6,11]⟩,
  ⟨some 82,.ia 2 (.t 69) (.t 70),none,[0,1,0,1,2,3,4,5,6,7,8,9,10,11,12]⟩,
  ⟨none,.store 2 (.t 82) (.t 81),none,[13,12,12,0,1,2,3,4,5,6,7,8,9,10,11,12]⟩] [] true)
               (.seq (.region [
 oq 84 (.bin .int .eql (.t 19) (.c (.int .i64 5))),
 oq 83 (.mov (.t 84))] [] false)
   (.condJ ⟨[.rowH 10 .cell],[20,21,22,23,24,25,26,27,28,29,30,31,32,33,85,86,87,88,89,90,91,92,93,94,95,96,97,98],[],[]⟩ (.t 83)
    (.region [
 oq 85 (.mov (.t 5)),
 oq 86 (.mov (.t 6)),
 oq 87 (.mov (.t 5)),
 oq 88 (.fa 3 (.t 7)),
  ⟨some 89,.load none (.t 88),none,[3]⟩,
  ⟨some 90,.ia 2 (.t 87) (.t 89),none,[2,4]⟩,
  ⟨some 91,.load (some 2) (.t 90),none,[5]⟩,
 oq 92 (.mov (.t 5)),
 oq 93 (.fa 4 (.t 7)),
  ⟨some 94,.load none (.t 93),none,[8]⟩,
  ⟨some 95,.ia 2 (.t 92) (.t 94),none,[7,9]⟩,
  ⟨some 96,.load (some 2) (.t 95),none,[10]⟩,
  ⟨some 97,.call false [] 34 [(.t 91),(.t 96)],none,[6,11]⟩,
  ⟨some 98,.ia 2 (.t 85) (.t 86),none,[0,1,0,1,2,3,4,5,6,7,8,9,10,11,12]⟩,
  ⟨none,.store 2 (.t 98) (.t 97),none,[13,12,12,0,1,2,3,4,5,6,7,8,9,10,11,12]⟩] [] true)
                 (.region [
 oq 20 (.mov (.t 5)),
 oq 21 (.mov (.t 6)),
 oq 22 (.mov (.t 5)),
 oq 23 (.fa 3 (.t 7)),
  ⟨some 24,.load none (.t 23),none,[3]⟩,
  ⟨some 25,.ia 2 (.t 22) (.t 24),none,[2,4]⟩,
  ⟨some 26,.load (some 2) (.t 25),none,[5]⟩,
 oq 27 (.mov (.t 5)),
 oq 28 (.fa 4 (.t 7)),
  ⟨some 29,.load none (.t 28),none,[8]⟩,
  ⟨some 30,.ia 2 (.t 27) (.t 29),none,[7,9]⟩,
  ⟨some 31,.load (some 2) (.t 30),none,[10]⟩,
  ⟨some 32,.call false [] 35 [(.t 26),(.t 31)],none,[6,11]⟩,
  ⟨some 33,.ia 2 (.t 20) (.t 21),none,[0,1,0,1,2,3,4,5,6,7,8,9,10,11,12]⟩,
  ⟨none,.store 2 (.t 33) (.t 32),none,[13,12,12,0,1,2,3,4,5,6,7,8,9,10,11,12]⟩] [] true)))))))))))))))
   (.region [
 oq 99 (.bin .int .add (.t 13) (.c (.int .i64 1))),
 oq 13 (.mov (.t 99))] [] false))))))
  (.seq (.region [
 oq 100 (.mov (.t 5)),
 oq 101 (.mov (.t 0)),
 oq 102 (.len false (.t 101)),
 oq 103 (.bin .int .sub (.t 102) (.c (.int .i64 1))),
 oq 104 (.ia 2 (.t 100) (.t 103)),
 oq 105 (.load (some 2) (.t 104)),
  ⟨none,.store 2 (.t 4) (.t 105),none,[]⟩] [] false)
  (.ret))))
def tf298:TFunc:={ np:=2,nt:=106,res:=[.cell 4 (some 2)],own:=false,body:=tc298 }
end Ab
end
section
namespace Ab
open Go
set_option linter.unusedVariables false
set_option maxRecDepth 100000
noncomputable def S240_L1 (F97:ByteArray→(Option Int)) (a0:(List Node)) (x1:(Int×(List Int))):Option (LR (Int×(List Int)) Int) :=
 br (decide (x1.1 < ((List.length a0:Nat):Int)))
 (jn (σ:=(List Int)) (α:=(LR (Int×(List Int)) Int)) (bno (lookI a0 x1.1) fun y2 =>
 jn (σ:=Bool) (α:=(Sum (List Int) (LR (Int×(List Int)) Int))) (br (decide ((Node.op y2) < (1:Int)))
 (inlO (some true))
 (inlO (some (decide ((6:Int) < (Node.op y2)))))) fun x3 =>
 br x3
 (inrO (finO (some (1:Int))))
 (br (decide ((Node.op y2)=(1:Int)))
 (jn (σ:=Bool) (α:=(Sum (List Int) (LR (Int×(List Int)) Int))) (br (decide ((Node.n y2) < (0:Int)))
 (inlO (some true))
 (inlO (some (decide ((1000000:Int) < (Node.n y2)))))) fun x4 =>
 br x4
 (inrO (finO (some (1:Int))))
 (jn (σ:=Bool) (α:=(Sum (List Int) (LR (Int×(List Int)) Int))) (br (decide (¬ (Node.name y2)=(⟨#[]⟩:ByteArray)))
 (inlO (some true))
 (br (decide (¬ (Node.left y2)=(0:Int)))
 (inlO (some true))
 (inlO (some (decide (¬ (Node.right y2)=(0:Int))))))) fun x5 =>
 br x5
 (inrO (finO (some (3:Int))))
 (inlO (some x1.2))))
 (br (decide ((Node.op y2)=(2:Int)))
 (bno (F97 (Node.name y2)) fun y6 =>
 br (decide (¬ y6=(0:Int)))
 (inrO (finO (some (2:Int))))
 (jn (σ:=Bool) (α:=(Sum (List Int) (LR (Int×(List Int)) Int))) (br (decide (¬ (Node.n y2)=(0:Int)))
 (inlO (some true))
 (br (decide (¬ (Node.left y2)=(0:Int)))
 (inlO (some true))
 (inlO (some (decide (¬ (Node.right y2)=(0:Int))))))) fun x7 =>
 br x7
 (inrO (finO (some (3:Int))))
 (inlO (some x1.2))))
 (jn (σ:=Bool) (α:=(Sum (List Int) (LR (Int×(List Int)) Int))) (br (decide ((Node.left y2) < (0:Int)))
 (inlO (some true))
 (br (decide (x1.1≤(Node.left y2)))
 (inlO (some true))
 (br (decide ((Node.right y2) < (0:Int)))
 (inlO (some true))
 (inlO (some (decide (x1.1≤(Node.right y2)))))))) fun x8 =>
 br x8
 (inrO (finO (some (1:Int))))
 (jn (σ:=Bool) (α:=(Sum (List Int) (LR (Int×(List Int)) Int))) (br (decide (¬ (Node.n y2)=(0:Int)))
 (inlO (some true))
 (inlO (some (decide (¬ (Node.name y2)=(⟨#[]⟩:ByteArray)))))) fun x9 =>
 br x9
 (inrO (finO (some (3:Int))))
 (ck (decide (0≤Node.left y2∧Node.left y2 < ((List.length x1.2:Nat):Int))) <|
 bno ((x1.2)[(Int.toNat (Node.left y2))]?) fun y10 =>
 ck (decide (0≤Node.left y2∧Node.left y2 < ((List.length x1.2:Nat):Int))) <|
 bno ((x1.2)[(Int.toNat (Node.left y2))]?) fun y11 =>
 ck (decide (0≤Node.right y2∧Node.right y2 < ((List.length (List.set x1.2 (Int.toNat (Node.left y2)) (wi (y10+(1:Int)))):Nat):Int))) <|
 bno ((List.set x1.2 (Int.toNat (Node.left y2)) (wi (y10+(1:Int))))[(Int.toNat (Node.right y2))]?) fun y12 =>
 ck (decide (0≤Node.right y2∧Node.right y2 < ((List.length (List.set x1.2 (Int.toNat (Node.left y2)) (wi (y10+(1:Int)))):Nat):Int))) <|
 bno ((List.set x1.2 (Int.toNat (Node.left y2)) (wi (y10+(1:Int))))[(Int.toNat (Node.right y2))]?) fun y13 =>
 inlO (some (List.set (List.set x1.2 (Int.toNat (Node.left y2)) (wi (y10+(1:Int)))) (Int.toNat (Node.right y2)) (wi (y12+(1:Int))))))))))) fun x14 =>
 nxO (some (wi (x1.1+(1:Int)),x14)))
 (dnO (some (x1.1,x1.2)))
noncomputable def S240_L2 (a0:(List Node)) (x15:(Int×(List Int))) (x16:Int):Option (LR Int Int) :=
 br (decide (x16 < (wi (((List.length a0:Nat):Int) - (1:Int)))))
 (ck (decide (0≤x16∧x16 < ((List.length x15.2:Nat):Int))) <|
 bno ((x15.2)[(Int.toNat x16)]?) fun y17 =>
 br (decide (¬ y17=(1:Int)))
 (finO (some (3:Int)))
 (nxO (some (wi (x16+(1:Int))))))
 (dnO (some x16))
noncomputable def S240 (F97:ByteArray→(Option Int)) (a0:(List Node)):Option Int :=
 br (decide (((List.length a0:Nat):Int)=(0:Int)))
 (some (5:Int))
 (br (decide ((30:Int) < ((List.length a0:Nat):Int)))
 (some (4:Int))
 (ck (decide (0≤((List.length a0:Nat):Int)∧((List.length a0:Nat):Int)≤((List.length a0:Nat):Int)∧((List.length a0:Nat):Int)≤roomA)) <|
 lp (S240_L1 F97 a0) ((0:Int),List.replicate (Int.toNat ((List.length a0:Nat):Int)) (0:Int)) fun x15 =>
 lp (S240_L2 a0 x15) (0:Int) fun x18 =>
 some (0:Int)))
noncomputable def P240 (a0:(List Node)):Option Int:=S240 P97 a0
end Ab
end
