/-
  Functions of the program as typed code, what they come to, and their contracts: written by program (mk.py).
-/
import Derived.Test.YtchidgkpkhloeaaGreatDoorB2
import Derived.KernelRfl
import Derived.Test.YtchidgkpkhloeaaGreatDoorF2
import Derived.Test.YtchidgkpkhloeaaGreatDoorC3
namespace Ab
open Go
set_option linter.unusedVariables false
set_option maxRecDepth 100000
noncomputable def S347_L1 (a0:(List Int)) (a1:Int) (x1:Int):Option (LR Int (List Int)) :=
 jn (σ:=Bool) (α:=(LR Int (List Int))) (br (decide (x1 < ((List.length a0:Nat):Int)))
 (bno (lookI a0 x1) fun y2 =>
 inlO (some (decide (y2 < a1))))
 (inlO (some false))) fun x3 =>
 br x3
 (nxO (some (wi (x1+(1:Int)))))
 (dnO (some x1))
noncomputable def S347 (a0:(List Int)) (a1:Int):Option (List Int) :=
 lp (S347_L1 a0 a1) (0:Int) fun x4 =>
 jn (σ:=Bool) (α:=(List Int)) (br (decide (x4 < ((List.length a0:Nat):Int)))
 (bno (lookI a0 x4) fun y5 =>
 inlO (some (decide (y5=a1))))
 (inlO (some false))) fun x6 =>
 br x6
 (some a0)
 (ck (decide (0≤(0:Int)∧(0:Int)≤x4∧x4≤((List.length a0:Nat):Int))) <|
 ck (decide (List.length (List.take (Int.toNat x4 - Int.toNat (0:Int)) (List.drop (Int.toNat (0:Int)) a0))≤roomA)) <|
 ck (decide (List.length (List.take (Int.toNat x4 - Int.toNat (0:Int)) (List.drop (Int.toNat (0:Int)) a0))+List.length ([a1]:List Int)≤roomA)) <|
 ck (decide (0≤x4∧x4≤((List.length a0:Nat):Int)∧((List.length a0:Nat):Int)≤((List.length a0:Nat):Int))) <|
 ck (decide (List.length ((List.take (Int.toNat x4 - Int.toNat (0:Int)) (List.drop (Int.toNat (0:Int)) a0))++([a1]:List Int))+List.length (List.take (Int.toNat ((List.length a0:Nat):Int) - Int.toNat x4) (List.drop (Int.toNat x4) a0))≤roomA)) <|
 some (((List.take (Int.toNat x4 - Int.toNat (0:Int)) (List.drop (Int.toNat (0:Int)) a0))++([a1]:List Int))++(List.take (Int.toNat ((List.length a0:Nat):Int) - Int.toNat x4) (List.drop (Int.toNat x4) a0))))
noncomputable def P347 (a0:(List Int)) (a1:Int):Option (List Int):=S347 a0 a1
noncomputable def S348_L1 (a0:(List Int)) (a1:Int) (x1:Int):Option (LR Int Bool) :=
 br (decide (x1 < ((List.length a0:Nat):Int)))
 (bno (lookI a0 x1) fun y2 =>
 br (decide (y2=a1))
 (finO (some true))
 (nxO (some (wi (x1+(1:Int))))))
 (dnO (some x1))
noncomputable def S348 (a0:(List Int)) (a1:Int):Option Bool :=
 lp (S348_L1 a0 a1) (0:Int) fun x3 =>
 some false
noncomputable def P348 (a0:(List Int)) (a1:Int):Option Bool:=S348 a0 a1
noncomputable def S321_L1 (F347:(List Int)→Int→(Option (List Int))) (F96:Dim→ByteArray→(Option Int)) (a0:Dim) (x2:((List (List Int))×Int)) (y5:((List Node)×Int×Int)) (x6:((List Int)×Int)):Option (LR ((List Int)×Int) (Sum (List Int) (LR ((List (List Int))×Int) ((List (List Int))×Int×Int)))) :=
 br (decide (x6.2 < ((List.length y5.1:Nat):Int)))
 (jn (σ:=(List Int)) (α:=(LR ((List Int)×Int) (Sum (List Int) (LR ((List (List Int))×Int) ((List (List Int))×Int×Int))))) (bno (lookI y5.1 x6.2) fun y7 =>
 br (decide (¬ (Node.op y7)=(2:Int)))
 (inlO (some x6.1))
 (bno (lookI y5.1 x6.2) fun y8 =>
 bno (F96 a0 (Node.name y8)) fun y9 =>
 br (decide (y9 < (0:Int)))
 (inrO (finO (inrO (finO (some (([]:List (List Int)),x2.2,(5:Int)))))))
 (bno (F347 x6.1 y9) fun y10 =>
 inlO (some y10)))) fun x11 =>
 nxO (some (x11,wi (x6.2+(1:Int)))))
 (dnO (some (x6.1,x6.2)))
noncomputable def S321_L2 (F347:(List Int)→Int→(Option (List Int))) (a0:Dim) (y13:(List Int)) (x14:((List Int)×Int)):Option (LR ((List Int)×Int) (Sum (List Int) (LR ((List (List Int))×Int) ((List (List Int))×Int×Int)))) :=
 br (decide (x14.2 < ((List.length y13:Nat):Int)))
 (bno (lookI y13 x14.2) fun y15 =>
 bno (lookI (Dim.members a0) y15) fun y16 =>
 jn (σ:=(List Int)) (α:=(LR ((List Int)×Int) (Sum (List Int) (LR ((List (List Int))×Int) ((List (List Int))×Int×Int))))) (br (decide (¬ (Member.sign y16)=(0:Int)))
 (bno (lookI y13 x14.2) fun y17 =>
 bno (F347 x14.1 y17) fun y18 =>
 inlO (some y18))
 (inlO (some x14.1))) fun x19 =>
 nxO (some (x19,wi (x14.2+(1:Int)))))
 (dnO (some (x14.1,x14.2)))
noncomputable def S321_L3 (F100:Dim→Int→(Option (List Int))) (F247:ByteArray→(Option ((List Node)×Int×Int))) (F347:(List Int)→Int→(Option (List Int))) (F96:Dim→ByteArray→(Option Int)) (a0:Dim) (x2:((List (List Int))×Int)):Option (LR ((List (List Int))×Int) ((List (List Int))×Int×Int)) :=
 br (decide (x2.2 < ((List.length (Dim.members a0):Nat):Int)))
 (bno (lookI (Dim.members a0) x2.2) fun y3 =>
 jn (σ:=(List Int)) (α:=(LR ((List (List Int))×Int) ((List (List Int))×Int×Int))) (br (decide (¬ (Member.formula y3)=(⟨#[]⟩:ByteArray)))
 (bno (lookI (Dim.members a0) x2.2) fun y4 =>
 bno (F247 (Member.formula y4)) fun y5 =>
 br (decide (¬ y5.2.2=(0:Int)))
 (inrO (finO (some (([]:List (List Int)),x2.2,y5.2.2))))
 (lp (S321_L1 F347 F96 a0 x2 y5) (([]:List Int),(0:Int)) fun x12 =>
 inlO (some x12.1)))
 (bno (F100 a0 x2.2) fun y13 =>
 lp (S321_L2 F347 a0 y13) (([]:List Int),(0:Int)) fun x20 =>
 inlO (some x20.1))) fun x21 =>
 ck (decide (List.length x2.1+List.length ([x21]:List (List Int))≤roomA)) <|
 nxO (some (x2.1++([x21]:List (List Int)),wi (x2.2+(1:Int)))))
 (dnO (some (x2.1,x2.2)))
noncomputable def S321_L4 (F347:(List Int)→Int→(Option (List Int))) (F348:(List Int)→Int→(Option Bool)) (x22:((List (List Int))×Int)) (x26:((List Int)×Bool×Int)) (x27:((List Int)×Bool×Int)):Option (LR ((List Int)×Bool×Int) (LR ((List Int)×Bool×Int) (LR ((List Int)×Bool) (LR Int ((List (List Int))×Int×Int))))) :=
 bno (lookI x27.1 x26.2.2) fun y28 =>
 ck (decide (0≤y28∧y28 < ((List.length x22.1:Nat):Int))) <|
 bno ((x22.1)[(Int.toNat y28)]?) fun y29 =>
 br (decide (x27.2.2 < ((List.length y29:Nat):Int)))
 (bno (lookI x27.1 x26.2.2) fun y30 =>
 ck (decide (0≤y30∧y30 < ((List.length x22.1:Nat):Int))) <|
 bno ((x22.1)[(Int.toNat y30)]?) fun y31 =>
 bno (lookI y31 x27.2.2) fun y32 =>
 bno (F348 x27.1 y32) fun y33 =>
 br (!y33)
 (bno (lookI x27.1 x26.2.2) fun y34 =>
 ck (decide (0≤y34∧y34 < ((List.length x22.1:Nat):Int))) <|
 bno ((x22.1)[(Int.toNat y34)]?) fun y35 =>
 bno (lookI y35 x27.2.2) fun y36 =>
 bno (F347 x27.1 y36) fun y37 =>
 dnO (some (y37,true,x27.2.2)))
 (nxO (some (x27.1,x27.2.1,wi (x27.2.2+(1:Int))))))
 (dnO (some (x27.1,x27.2.1,x27.2.2)))
noncomputable def S321_L5 (F347:(List Int)→Int→(Option (List Int))) (F348:(List Int)→Int→(Option Bool)) (x22:((List (List Int))×Int)) (x26:((List Int)×Bool×Int)):Option (LR ((List Int)×Bool×Int) (LR ((List Int)×Bool) (LR Int ((List (List Int))×Int×Int)))) :=
 br (decide (x26.2.2 < ((List.length x26.1:Nat):Int)))
 (lp (S321_L4 F347 F348 x22 x26) (x26.1,x26.2.1,(0:Int)) fun x38 =>
 nxO (some (x38.1,x38.2.1,wi (x26.2.2+(1:Int)))))
 (dnO (some (x26.1,x26.2.1,x26.2.2)))
noncomputable def S321_L6 (F347:(List Int)→Int→(Option (List Int))) (F348:(List Int)→Int→(Option Bool)) (x22:((List (List Int))×Int)) (x25:((List Int)×Bool)):Option (LR ((List Int)×Bool) (LR Int ((List (List Int))×Int×Int))) :=
 br x25.2
 (lp (S321_L5 F347 F348 x22) (x25.1,false,(0:Int)) fun x39 =>
 nxO (some (x39.1,x39.2.1)))
 (dnO (some (x25.1,x25.2)))
noncomputable def S321_L7 (F347:(List Int)→Int→(Option (List Int))) (F348:(List Int)→Int→(Option Bool)) (x22:((List (List Int))×Int)) (x23:Int):Option (LR Int ((List (List Int))×Int×Int)) :=
 br (decide (x23 < ((List.length x22.1:Nat):Int)))
 (ck (decide (0≤x23∧x23 < ((List.length x22.1:Nat):Int))) <|
 bno ((x22.1)[(Int.toNat x23)]?) fun y24 =>
 lp (S321_L6 F347 F348 x22) (y24,true) fun x40 =>
 bno (F348 x40.1 x23) fun y41 =>
 br y41
 (finO (some (([]:List (List Int)),x23,(8:Int))))
 (nxO (some (wi (x23+(1:Int))))))
 (dnO (some x23))
noncomputable def S321 (F100:Dim→Int→(Option (List Int))) (F247:ByteArray→(Option ((List Node)×Int×Int))) (F347:(List Int)→Int→(Option (List Int))) (F348:(List Int)→Int→(Option Bool)) (F95:Dim→(Option (Int×Int))) (F96:Dim→ByteArray→(Option Int)) (a0:Dim):Option ((List (List Int))×Int×Int) :=
 bno (F95 a0) fun y1 =>
 br (decide (¬ y1.2=(0:Int)))
 (some (([]:List (List Int)),y1.1,y1.2))
 (lp (S321_L3 F100 F247 F347 F96 a0) (([]:List (List Int)),(0:Int)) fun x22 =>
 lp (S321_L7 F347 F348 x22) (0:Int) fun x42 =>
 some (x22.1,(-1:Int),(0:Int)))
noncomputable def P321 (a0:Dim):Option ((List (List Int))×Int×Int):=S321 P100 P247 P347 P348 P95 P96 a0
noncomputable def S319_L1 (F321:Dim→(Option ((List (List Int))×Int×Int))) (a0:(List Dim)) (x2:Int):Option (LR Int (Int×Int×Int)) :=
 br (decide (x2 < ((List.length a0:Nat):Int)))
 (bno (lookI a0 x2) fun y3 =>
 bno (F321 y3) fun y4 =>
 br (decide (¬ y4.2.2=(0:Int)))
 (finO (some (x2,y4.2.1,y4.2.2)))
 (nxO (some (wi (x2+(1:Int))))))
 (dnO (some x2))
noncomputable def S319 (F321:Dim→(Option ((List (List Int))×Int×Int))) (F94:(List Dim)→(Option (Int×Int×Int))) (a0:(List Dim)):Option (Int×Int×Int) :=
 bno (F94 a0) fun y1 =>
 br (decide (¬ y1.2.2=(0:Int)))
 (some (y1.1,y1.2.1,y1.2.2))
 (lp (S319_L1 F321 a0) (0:Int) fun x5 =>
 some ((-1:Int),(-1:Int),(0:Int)))
noncomputable def P319 (a0:(List Dim)):Option (Int×Int×Int):=S319 P321 P94 a0
end Ab
