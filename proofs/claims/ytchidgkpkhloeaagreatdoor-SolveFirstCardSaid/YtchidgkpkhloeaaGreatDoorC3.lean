import Derived.Test.YtchidgkpkhloeaaGreatDoorB2
import Derived.KernelRfl
import Derived.Test.YtchidgkpkhloeaaGreatDoorC1
section
namespace Ab
open Go
set_option linter.unusedVariables false
set_option maxRecDepth 100000
noncomputable def S106_L1 (a0:(List Dim)) (x1:(Int×Int)):Option (LR (Int×Int) Int) :=
 br (decide (x1.2 < ((List.length a0:Nat):Int)))
 (bno (lookI a0 x1.2) fun y2 =>
 nxO (some (wi (x1.1 * ((List.length (Dim.members y2):Nat):Int)),wi (x1.2+(1:Int)))))
 (dnO (some (x1.1,x1.2)))
noncomputable def S106 (a0:(List Dim)):Option Int :=
 lp (S106_L1 a0) ((1:Int),(0:Int)) fun x3 =>
 some x3.1
noncomputable def P106 (a0:(List Dim)):Option Int:=S106 a0
noncomputable def S96_L1 (a0:Dim) (a1:ByteArray) (x1:Int):Option (LR Int Int) :=
 br (decide (x1 < ((List.length (Dim.members a0):Nat):Int)))
 (bno (lookI (Dim.members a0) x1) fun y2 =>
 br (decide ((Member.name y2)=a1))
 (finO (some x1))
 (nxO (some (wi (x1+(1:Int))))))
 (dnO (some x1))
noncomputable def S96 (a0:Dim) (a1:ByteArray):Option Int :=
 lp (S96_L1 a0 a1) (0:Int) fun x3 =>
 some (-1:Int)
noncomputable def P96 (a0:Dim) (a1:ByteArray):Option Int:=S96 a0 a1
noncomputable def S97_L1 (a0:ByteArray) (x2:Int):Option (LR Int Int) :=
 br (decide (x2 < ((ByteArray.size a0:Nat):Int)))
 (jn (σ:=Bool) (α:=(LR Int Int)) (bno (lookI (ByteArray.data a0).toList x2) fun y3 =>
 br (decide (((UInt8.toNat y3:Nat):Int) < (97:Int)))
 (inlO (some true))
 (bno (lookI (ByteArray.data a0).toList x2) fun y4 =>
 inlO (some (decide ((122:Int) < ((UInt8.toNat y4:Nat):Int)))))) fun x5 =>
 br x5
 (finO (some (2:Int)))
 (nxO (some (wi (x2+(1:Int))))))
 (dnO (some x2))
noncomputable def S97 (a0:ByteArray):Option Int :=
 jn (σ:=Bool) (α:=Int) (br (decide (a0=(⟨#[]⟩:ByteArray)))
 (inlO (some true))
 (inlO (some (decide ((8:Int) < ((ByteArray.size a0:Nat):Int)))))) fun x1 =>
 br x1
 (some (2:Int))
 (lp (S97_L1 a0) (0:Int) fun x6 =>
 some (0:Int))
noncomputable def P97 (a0:ByteArray):Option Int:=S97 a0
noncomputable def S95_L1 (F96:Dim→ByteArray→(Option Int)) (F97:ByteArray→(Option Int)) (a0:Dim) (x3:Int):Option (LR Int (Int×Int)) :=
 br (decide (x3 < ((List.length (Dim.members a0):Nat):Int)))
 (bno (lookI (Dim.members a0) x3) fun y4 =>
 bno (F97 (Member.name y4)) fun y5 =>
 br (decide (¬ y5=(0:Int)))
 (finO (some (x3,(2:Int))))
 (bno (F96 a0 (Member.name y4)) fun y6 =>
 br (decide (y6 < x3))
 (finO (some (x3,(7:Int))))
 (jn (σ:=Bool) (α:=(LR Int (Int×Int))) (br (decide ((Member.parent y4) < (-1:Int)))
 (inlO (some true))
 (inlO (some (decide (x3≤(Member.parent y4)))))) fun x7 =>
 br x7
 (finO (some (x3,(1:Int))))
 (jn (σ:=Bool) (α:=(LR Int (Int×Int))) (br (decide ((0:Int)≤(Member.parent y4)))
 (bno (lookI (Dim.members a0) (Member.parent y4)) fun y8 =>
 inlO (some (decide (¬ (Member.formula y8)=(⟨#[]⟩:ByteArray)))))
 (inlO (some false))) fun x9 =>
 br x9
 (finO (some (x3,(6:Int))))
 (jn (σ:=Bool) (α:=(LR Int (Int×Int))) (br (decide ((Member.sign y4) < (-1:Int)))
 (inlO (some true))
 (inlO (some (decide ((1:Int) < (Member.sign y4)))))) fun x10 =>
 br x10
 (finO (some (x3,(1:Int))))
 (br (decide ((100:Int) < ((ByteArray.size (Member.formula y4):Nat):Int)))
 (finO (some (x3,(4:Int))))
 (nxO (some (wi (x3+(1:Int)))))))))))
 (dnO (some x3))
noncomputable def S95 (F96:Dim→ByteArray→(Option Int)) (F97:ByteArray→(Option Int)) (a0:Dim):Option (Int×Int) :=
 bno (F97 (Dim.name a0)) fun y1 =>
 br (decide (¬ y1=(0:Int)))
 (some ((-1:Int),(2:Int)))
 (jn (σ:=Bool) (α:=(Int×Int)) (br (decide ((Dim.solve a0) < (0:Int)))
 (inlO (some true))
 (inlO (some (decide ((9:Int) < (Dim.solve a0)))))) fun x2 =>
 br x2
 (some ((-1:Int),(1:Int)))
 (br (decide ((12:Int) < ((List.length (Dim.members a0):Nat):Int)))
 (some ((-1:Int),(4:Int)))
 (br (decide (((List.length (Dim.members a0):Nat):Int)=(0:Int)))
 (some ((-1:Int),(5:Int)))
 (lp (S95_L1 F96 F97 a0) (0:Int) fun x11 =>
 some ((-1:Int),(0:Int))))))
noncomputable def P95 (a0:Dim):Option (Int×Int):=S95 P96 P97 a0
noncomputable def S94_L1 (a0:(List Dim)) (x1:Int) (x4:(Int×Int)):Option (LR (Int×Int) (LR Int (Int×Int×Int))) :=
 jn (σ:=Bool) (α:=(LR (Int×Int) (LR Int (Int×Int×Int)))) (br (decide (x4.2 < x1))
 (inlO (some (decide (x4.1=(0:Int)))))
 (inlO (some false))) fun x5 =>
 br x5
 (bno (lookI a0 x4.2) fun y6 =>
 bno (lookI a0 x1) fun y7 =>
 jn (σ:=Int) (α:=(LR (Int×Int) (LR Int (Int×Int×Int)))) (br (decide ((Dim.name y6)=(Dim.name y7)))
 (inlO (some (7:Int)))
 (inlO (some x4.1))) fun x8 =>
 nxO (some (x8,wi (x4.2+(1:Int)))))
 (dnO (some (x4.1,x4.2)))
noncomputable def S94_L2 (F95:Dim→(Option (Int×Int))) (a0:(List Dim)) (x1:Int):Option (LR Int (Int×Int×Int)) :=
 br (decide (x1 < ((List.length a0:Nat):Int)))
 (bno (lookI a0 x1) fun y2 =>
 bno (F95 y2) fun y3 =>
 lp (S94_L1 a0 x1) (y3.2,(0:Int)) fun x9 =>
 br (decide (¬ x9.1=(0:Int)))
 (finO (some (x1,y3.1,x9.1)))
 (nxO (some (wi (x1+(1:Int))))))
 (dnO (some x1))
noncomputable def S94 (F106:(List Dim)→(Option Int)) (F95:Dim→(Option (Int×Int))) (a0:(List Dim)):Option (Int×Int×Int) :=
 br (decide ((4:Int) < ((List.length a0:Nat):Int)))
 (some ((-1:Int),(-1:Int),(4:Int)))
 (br (decide (((List.length a0:Nat):Int)=(0:Int)))
 (some ((-1:Int),(-1:Int),(5:Int)))
 (lp (S94_L2 F95 a0) (0:Int) fun x10 =>
 bno (F106 a0) fun y11 =>
 br (decide ((3000:Int) < y11))
 (some ((-1:Int),(-1:Int),(4:Int)))
 (some ((-1:Int),(-1:Int),(0:Int)))))
noncomputable def P94 (a0:(List Dim)):Option (Int×Int×Int):=S94 P106 P95 a0
noncomputable def S100_L1 (a0:Dim) (a1:Int) (x1:((List Int)×Int)):Option (LR ((List Int)×Int) (List Int)) :=
 br (decide (x1.2 < ((List.length (Dim.members a0):Nat):Int)))
 (bno (lookI (Dim.members a0) x1.2) fun y2 =>
 jn (σ:=(List Int)) (α:=(LR ((List Int)×Int) (List Int))) (br (decide ((Member.parent y2)=a1))
 (ck (decide (List.length x1.1+List.length ([x1.2]:List Int)≤roomA)) <|
 inlO (some (x1.1++([x1.2]:List Int))))
 (inlO (some x1.1))) fun x3 =>
 nxO (some (x3,wi (x1.2+(1:Int)))))
 (dnO (some (x1.1,x1.2)))
noncomputable def S100 (a0:Dim) (a1:Int):Option (List Int) :=
 lp (S100_L1 a0 a1) (([]:List Int),(0:Int)) fun x4 =>
 some x4.1
noncomputable def P100 (a0:Dim) (a1:Int):Option (List Int):=S100 a0 a1
end Ab
end
section
namespace Ab
open Go
set_option linter.unusedVariables false
set_option maxRecDepth 100000
end Ab
end
section
namespace Ab
open Go
set_option linter.unusedVariables false
set_option maxRecDepth 100000
end Ab
end
