import Derived.Test.YtchidgkpkhloeaaGreatDoorHD
import Derived.Test.YtchidgkpkhloeaaGreatDoorC3
set_option linter.unusedVariables false
noncomputable section
namespace Ab
open Go
section
set_option maxRecDepth 100000
section
variable (F150:Int->(Option Cell)) (F159:Int->(Option ByteArray)) (F160:Int->(Option Int)) (F161:ByteArray->Int->(Option (Int×Bool)))
end
end
section
set_option maxRecDepth 100000
section
variable (F245:LN->(Option ((List ByteArray)×Err))) (F297:(List ByteArray)->ByteArray->(Option Bool)) (F298_299:LN->(LC×(List ByteArray))->(Option Cell)) (F299:ByteArray->LC->(List ByteArray)->(Option Cell)) (F300:(List ByteArray)->ByteArray->(Option Int)) (F33:Cell->Cell->Int->(Option Cell)) (F34:Cell->Cell->(Option Cell)) (F35:Cell->Cell->(Option Cell)) (F52:Cell->(Option Err)) (F8:Int->(Option Cell))
end
end
section
set_option maxRecDepth 100000
section
variable (F146:Cell->Cell->Int->(Option Cell)) (F147:Cell->Cell->(Option Cell)) (F148:Cell->Cell->(Option Cell)) (F150:Int->(Option Cell)) (F291:(List ByteArray)->ByteArray->(Option Int)) (F292:LN->Int->(List ByteArray)->LC->(Option Cell)) (F97:ByteArray->(Option Int))
def zeC (a0:LN) (x1:(Int×LI)):Option (LR (Int×LI) Int) :=
 br (decide (x1.1 < ((List.length a0:Nat):Int)))
 (jn (σ:=(List Int)) (α:=(LR (Int×(List Int)) Int)) (bno (zq a0 x1.1) fun y2 =>
 jn (σ:=Bool) (α:=(Sum (List Int) (LR (Int×(List Int)) Int))) (br (decide ((Node.op y2) < (1:Int)))
 (zx (some true))
 (zx (some (decide ((6:Int) < (Node.op y2)))))) fun x3 =>
 br x3
 (zff (ya (some (1:Int))))
 (br (decide ((Node.op y2)=(1:Int)))
 (jn (σ:=Bool) (α:=(Sum (List Int) (LR (Int×(List Int)) Int))) (br (decide ((Node.n y2) < (0:Int)))
 (zx (some true))
 (zx (some (decide ((1000000:Int) < (Node.n y2)))))) fun x4 =>
 br x4
 (zff (ya (some (1:Int))))
 (jn (σ:=Bool) (α:=(Sum (List Int) (LR (Int×(List Int)) Int))) (br (decide (¬ (Node.name y2)=(⟨#[]⟩:ByteArray)))
 (zx (some true))
 (br (decide (¬ (Node.left y2)=(0:Int)))
 (zx (some true))
 (zx (some (decide (¬ (Node.right y2)=(0:Int))))))) fun x5 =>
 br x5
 (zff (ya (some (3:Int))))
 (zx (some x1.2))))
 (br (decide ((Node.op y2)=(2:Int)))
 (bno (F97 (Node.name y2)) fun y6 =>
 br (decide (¬ y6=(0:Int)))
 (zff (ya (some (2:Int))))
 (jn (σ:=Bool) (α:=(Sum (List Int) (LR (Int×(List Int)) Int))) (br (decide (¬ (Node.n y2)=(0:Int)))
 (zx (some true))
 (br (decide (¬ (Node.left y2)=(0:Int)))
 (zx (some true))
 (zx (some (decide (¬ (Node.right y2)=(0:Int))))))) fun x7 =>
 br x7
 (zff (ya (some (3:Int))))
 (zx (some x1.2))))
 (jn (σ:=Bool) (α:=(Sum (List Int) (LR (Int×(List Int)) Int))) (br (decide ((Node.left y2) < (0:Int)))
 (zx (some true))
 (br (decide (x1.1<=(Node.left y2)))
 (zx (some true))
 (br (decide ((Node.right y2) < (0:Int)))
 (zx (some true))
 (zx (some (decide (x1.1<=(Node.right y2)))))))) fun x8 =>
 br x8
 (zff (ya (some (1:Int))))
 (jn (σ:=Bool) (α:=(Sum (List Int) (LR (Int×(List Int)) Int))) (br (decide (¬ (Node.n y2)=(0:Int)))
 (zx (some true))
 (zx (some (decide (¬ (Node.name y2)=(⟨#[]⟩:ByteArray)))))) fun x9 =>
 br x9
 (zff (ya (some (3:Int))))
 (ck (decide (0<=Node.left y2∧Node.left y2 < ((List.length x1.2:Nat):Int))) <|
 bno ((x1.2)[(Int.toNat (Node.left y2))]?) fun y10 =>
 ck (decide (0<=Node.left y2∧Node.left y2 < ((List.length x1.2:Nat):Int))) <|
 bno ((x1.2)[(Int.toNat (Node.left y2))]?) fun y11 =>
 ck (decide (0<=Node.right y2∧Node.right y2 < ((List.length (List.set x1.2 (Int.toNat (Node.left y2)) (wi (y10+(1:Int)))):Nat):Int))) <|
 bno ((List.set x1.2 (Int.toNat (Node.left y2)) (wi (y10+(1:Int))))[(Int.toNat (Node.right y2))]?) fun y12 =>
 ck (decide (0<=Node.right y2∧Node.right y2 < ((List.length (List.set x1.2 (Int.toNat (Node.left y2)) (wi (y10+(1:Int)))):Nat):Int))) <|
 bno ((List.set x1.2 (Int.toNat (Node.left y2)) (wi (y10+(1:Int))))[(Int.toNat (Node.right y2))]?) fun y13 =>
 zx (some (List.set (List.set x1.2 (Int.toNat (Node.left y2)) (wi (y10+(1:Int)))) (Int.toNat (Node.right y2)) (wi (y12+(1:Int))))))))))) fun x14 =>
 nxO (some (wi (x1.1+(1:Int)),x14)))
 (dnO (some (x1.1,x1.2)))
def zeB (a0:LN) (x15:(Int×LI)) (x16:Int):Option (LR Int Int) :=
 br (decide (x16 < (wi (((List.length a0:Nat):Int) - (1:Int)))))
 (ck (decide (0<=x16∧x16 < ((List.length x15.2:Nat):Int))) <|
 bno ((x15.2)[(Int.toNat x16)]?) fun y17 =>
 br (decide (¬ y17=(1:Int)))
 (ya (some (3:Int)))
 (nxO (some (wi (x16+(1:Int))))))
 (dnO (some x16))
def S240 (a0:LN):Option Int :=
 br (decide (((List.length a0:Nat):Int)=(0:Int)))
 (some (5:Int))
 (br (decide ((30:Int) < ((List.length a0:Nat):Int)))
 (some (4:Int))
 (ck (decide (0<=((List.length a0:Nat):Int)∧((List.length a0:Nat):Int)<=((List.length a0:Nat):Int)∧((List.length a0:Nat):Int)<=zZ)) <|
 lp (zeC F97 a0) ((0:Int),List.replicate (Int.toNat ((List.length a0:Nat):Int)) (0:Int)) fun x15 =>
 lp (zeB a0 x15) (0:Int) fun x18 =>
 some (0:Int)))
def P240:=S240 P97
end
end
end Ab
