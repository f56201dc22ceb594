import Derived.Test.YtkaifdgeigdbhaaGreatDoorHD
import Derived.Test.YtkaifdgeigdbhaaGreatDoorC3
set_option linter.all false
noncomputable section
namespace Ab
open Go
section
set_option maxRecDepth 100000
section
variable (F150:Int->(Option Cell)) (F159:Int->(Option ByteArray)) (F160:Int->(Option Int)) (F161:ByteArray->Int->(Option (Int×Bool)))
end
end
section
set_option maxRecDepth 100000
section
variable (F245:LN->(Option ((List ByteArray)×Err))) (F297:(List ByteArray)->ByteArray->(Option Bool)) (F298_299:LN->(LC×(List ByteArray))->(Option Cell)) (F299:ByteArray->LC->(List ByteArray)->(Option Cell)) (F300:(List ByteArray)->ByteArray->(Option Int)) (F33:Cell->Cell->Int->(Option Cell)) (F34:Cell->Cell->(Option Cell)) (F35:Cell->Cell->(Option Cell)) (F52:Cell->(Option Err)) (F8:Int->(Option Cell))
end
end
section
set_option maxRecDepth 100000
section
variable (F146:Cell->Cell->Int->(Option Cell)) (F147:Cell->Cell->(Option Cell)) (F148:Cell->Cell->(Option Cell)) (F150:Int->(Option Cell)) (F291:(List ByteArray)->ByteArray->(Option Int)) (F292:LN->Int->(List ByteArray)->LC->(Option Cell)) (F97:ByteArray->(Option Int))
def zfI (a0:LN) (x1:(Int×LI)):Option (LR (Int×LI) Int) :=
 br (decide (x1.1 < (a0.length:Int)))
 (jn (σ:=(List Int)) (α:=(LR (Int×(List Int)) Int)) (bno (zA a0 x1.1) fun y2 =>
 jn (σ:=Bool) (α:=(Sum (List Int) (LR (Int×(List Int)) Int))) (br (decide ((Node.op y2) < (1:Int)))
 (zt (some true))
 (zt (some (decide ((6:Int) < (Node.op y2)))))) fun x3 =>
 br x3
 (zgt (ya (some (1:Int))))
 (br (decide ((Node.op y2)=(1:Int)))
 (jn (σ:=Bool) (α:=(Sum (List Int) (LR (Int×(List Int)) Int))) (br (decide ((Node.n y2) < (0:Int)))
 (zt (some true))
 (zt (some (decide ((1000000:Int) < (Node.n y2)))))) fun x4 =>
 br x4
 (zgt (ya (some (1:Int))))
 (jn (σ:=Bool) (α:=(Sum (List Int) (LR (Int×(List Int)) Int))) (br (decide (¬ (Node.name y2)=(⟨#[]⟩:ByteArray)))
 (zt (some true))
 (br (decide (¬ (Node.left y2)=(0:Int)))
 (zt (some true))
 (zt (some (decide (¬ (Node.right y2)=(0:Int))))))) fun x5 =>
 br x5
 (zgt (ya (some (3:Int))))
 (zt (some x1.2))))
 (br (decide ((Node.op y2)=(2:Int)))
 (bno (F97 (Node.name y2)) fun y6 =>
 br (decide (¬ y6=(0:Int)))
 (zgt (ya (some (2:Int))))
 (jn (σ:=Bool) (α:=(Sum (List Int) (LR (Int×(List Int)) Int))) (br (decide (¬ (Node.n y2)=(0:Int)))
 (zt (some true))
 (br (decide (¬ (Node.left y2)=(0:Int)))
 (zt (some true))
 (zt (some (decide (¬ (Node.right y2)=(0:Int))))))) fun x7 =>
 br x7
 (zgt (ya (some (3:Int))))
 (zt (some x1.2))))
 (jn (σ:=Bool) (α:=(Sum (List Int) (LR (Int×(List Int)) Int))) (br (decide ((Node.left y2) < (0:Int)))
 (zt (some true))
 (br (decide (x1.1<=(Node.left y2)))
 (zt (some true))
 (br (decide ((Node.right y2) < (0:Int)))
 (zt (some true))
 (zt (some (decide (x1.1<=(Node.right y2)))))))) fun x8 =>
 br x8
 (zgt (ya (some (1:Int))))
 (jn (σ:=Bool) (α:=(Sum (List Int) (LR (Int×(List Int)) Int))) (br (decide (¬ (Node.n y2)=(0:Int)))
 (zt (some true))
 (zt (some (decide (¬ (Node.name y2)=(⟨#[]⟩:ByteArray)))))) fun x9 =>
 br x9
 (zgt (ya (some (3:Int))))
 (ck (decide (0<=Node.left y2∧Node.left y2 < (x1.2.length:Int))) <|
 bno ((x1.2)[(Int.toNat (Node.left y2))]?) fun fI =>
 ck (decide (0<=Node.left y2∧Node.left y2 < (x1.2.length:Int))) <|
 bno ((x1.2)[(Int.toNat (Node.left y2))]?) fun cH =>
 ck (decide (0<=Node.right y2∧Node.right y2 < ((List.length (List.set x1.2 (Int.toNat (Node.left y2)) (wi (fI+(1:Int)))):Nat):Int))) <|
 bno ((List.set x1.2 (Int.toNat (Node.left y2)) (wi (fI+(1:Int))))[(Int.toNat (Node.right y2))]?) fun gT =>
 ck (decide (0<=Node.right y2∧Node.right y2 < ((List.length (List.set x1.2 (Int.toNat (Node.left y2)) (wi (fI+(1:Int)))):Nat):Int))) <|
 bno ((List.set x1.2 (Int.toNat (Node.left y2)) (wi (fI+(1:Int))))[(Int.toNat (Node.right y2))]?) fun cA =>
 zt (some (List.set (List.set x1.2 (Int.toNat (Node.left y2)) (wi (fI+(1:Int)))) (Int.toNat (Node.right y2)) (wi (gT+(1:Int))))))))))) fun kC =>
 nxO (some (wi (x1.1+(1:Int)),kC)))
 (dnO (some (x1.1,x1.2)))
def zfH (a0:LN) (gU:(Int×LI)) (eI:Int):Option (LR Int Int) :=
 br (decide (eI < (wi ((a0.length:Int) - (1:Int)))))
 (ck (decide (0<=eI∧eI < (gU.2.length:Int))) <|
 bno ((gU.2)[(Int.toNat eI)]?) fun y17 =>
 br (decide (¬ y17=(1:Int)))
 (ya (some (3:Int)))
 (nxO (some (wi (eI+(1:Int))))))
 (dnO (some eI))
def S240 (a0:LN):Option Int :=
 br (decide ((a0.length:Int)=(0:Int)))
 (some (5:Int))
 (br (decide ((30:Int) < (a0.length:Int)))
 (some (4:Int))
 (ck (decide (0<=(a0.length:Int)∧(a0.length:Int)<=(a0.length:Int)∧(a0.length:Int)<=zX)) <|
 lp (zfI F97 a0) ((0:Int),List.replicate (Int.toNat (a0.length:Int)) (0:Int)) fun gU =>
 lp (zfH a0 gU) (0:Int) fun kB =>
 some (0:Int)))
def P240:=S240 P97
end
end
end Ab
