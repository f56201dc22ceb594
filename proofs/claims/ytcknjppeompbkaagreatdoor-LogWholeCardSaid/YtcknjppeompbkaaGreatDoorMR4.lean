/-
  Functions of the program as typed code, what they come to, and their contracts: written by program (mk.py).
-/
import Derived.Test.YtcknjppeompbkaaGreatDoorMR
import Derived.Test.YtcknjppeompbkaaGreatDoorMRc
set_option linter.all false
noncomputable section
namespace Ab
open Go
set_option maxRecDepth 100000
section
variable (F146:Cell->Cell->Int->(Option Cell)) (F147:Cell->Cell->(Option Cell)) (F148:Cell->Cell->(Option Cell)) (F150:Int->(Option Cell)) (F291:(List ByteArray)->ByteArray->(Option Int)) (F292:LN->Int->(List ByteArray)->LC->(Option Cell)) (F97:ByteArray->(Option Int))
def zfk (a0:LN) (x1:(Int×LI)):Option (LR (Int×LI) Int) :=
 br (decide (x1.1 < (a0.length:Int)))
 (jn (σ:=(List Int)) (α:=(LR (Int×(List Int)) Int)) (bno (qb a0 x1.1) fun y2 =>
 jn (σ:=Bool) (α:=(Sum (List Int) (LR (Int×(List Int)) Int))) (br (decide ((Node.op y2) < (1:Int)))
 (zD (some true))
 (zD (some (decide ((6:Int) < (Node.op y2)))))) fun x3 =>
 br x3
 (zfZ (wj (some (1:Int))))
 (br (decide ((Node.op y2)=(1:Int)))
 (jn (σ:=Bool) (α:=(Sum (List Int) (LR (Int×(List Int)) Int))) (br (decide ((Node.n y2) < (0:Int)))
 (zD (some true))
 (zD (some (decide ((1000000:Int) < (Node.n y2)))))) fun x4 =>
 br x4
 (zfZ (wj (some (1:Int))))
 (jn (σ:=Bool) (α:=(Sum (List Int) (LR (Int×(List Int)) Int))) (br (decide (¬ (Node.name y2)=(⟨#[]⟩:ByteArray)))
 (zD (some true))
 (br (decide (¬ (Node.left y2)=(0:Int)))
 (zD (some true))
 (zD (some (decide (¬ (Node.right y2)=(0:Int))))))) fun x5 =>
 br x5
 (zfZ (wj (some (3:Int))))
 (zD (some x1.2))))
 (br (decide ((Node.op y2)=(2:Int)))
 (bno (F97 (Node.name y2)) fun y6 =>
 br (decide (¬ y6=(0:Int)))
 (zfZ (wj (some (2:Int))))
 (jn (σ:=Bool) (α:=(Sum (List Int) (LR (Int×(List Int)) Int))) (br (decide (¬ (Node.n y2)=(0:Int)))
 (zD (some true))
 (br (decide (¬ (Node.left y2)=(0:Int)))
 (zD (some true))
 (zD (some (decide (¬ (Node.right y2)=(0:Int))))))) fun x7 =>
 br x7
 (zfZ (wj (some (3:Int))))
 (zD (some x1.2))))
 (jn (σ:=Bool) (α:=(Sum (List Int) (LR (Int×(List Int)) Int))) (br (decide ((Node.left y2) < (0:Int)))
 (zD (some true))
 (br (decide (x1.1<=(Node.left y2)))
 (zD (some true))
 (br (decide ((Node.right y2) < (0:Int)))
 (zD (some true))
 (zD (some (decide (x1.1<=(Node.right y2)))))))) fun x8 =>
 br x8
 (zfZ (wj (some (1:Int))))
 (jn (σ:=Bool) (α:=(Sum (List Int) (LR (Int×(List Int)) Int))) (br (decide (¬ (Node.n y2)=(0:Int)))
 (zD (some true))
 (zD (some (decide (¬ (Node.name y2)=(⟨#[]⟩:ByteArray)))))) fun x9 =>
 br x9
 (zfZ (wj (some (3:Int))))
 (ck (decide (0<=Node.left y2∧Node.left y2 < (x1.2.length:Int))) <|
 bno ((x1.2)[(Int.toNat (Node.left y2))]?) fun fD =>
 ck (decide (0<=Node.left y2∧Node.left y2 < (x1.2.length:Int))) <|
 bno ((x1.2)[(Int.toNat (Node.left y2))]?) fun iA =>
 ck (decide (0<=Node.right y2∧Node.right y2 < ((List.length (List.set x1.2 (Int.toNat (Node.left y2)) (wi (fD+(1:Int)))):Nat):Int))) <|
 bno ((List.set x1.2 (Int.toNat (Node.left y2)) (wi (fD+(1:Int))))[(Int.toNat (Node.right y2))]?) fun lE =>
 ck (decide (0<=Node.right y2∧Node.right y2 < ((List.length (List.set x1.2 (Int.toNat (Node.left y2)) (wi (fD+(1:Int)))):Nat):Int))) <|
 bno ((List.set x1.2 (Int.toNat (Node.left y2)) (wi (fD+(1:Int))))[(Int.toNat (Node.right y2))]?) fun fi =>
 zD (some (List.set (List.set x1.2 (Int.toNat (Node.left y2)) (wi (fD+(1:Int)))) (Int.toNat (Node.right y2)) (wi (lE+(1:Int))))))))))) fun oD =>
 nxO (some (wi (x1.1+(1:Int)),oD)))
 (dnO (some (x1.1,x1.2)))
def zfj (a0:LN) (gO:(Int×LI)) (fE:Int):Option (LR Int Int) :=
 br (decide (fE < (wi ((a0.length:Int) - (1:Int)))))
 (ck (decide (0<=fE∧fE < (gO.2.length:Int))) <|
 bno ((gO.2)[(Int.toNat fE)]?) fun y17 =>
 br (decide (¬ y17=(1:Int)))
 (wj (some (3:Int)))
 (nxO (some (wi (fE+(1:Int))))))
 (dnO (some fE))
def S240 (a0:LN):Option Int :=
 br (decide ((a0.length:Int)=(0:Int)))
 (some (5:Int))
 (br (decide ((30:Int) < (a0.length:Int)))
 (some (4:Int))
 (ck (decide (0<=(a0.length:Int)∧(a0.length:Int)<=(a0.length:Int)∧(a0.length:Int)<=qB)) <|
 lp (zfk F97 a0) ((0:Int),List.replicate (Int.toNat (a0.length:Int)) (0:Int)) fun gO =>
 lp (zfj a0 gO) (0:Int) fun fY =>
 some (0:Int)))
def P240:=S240 P97
end
end Ab
