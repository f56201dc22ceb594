import Derived.Test.YtkaifdgeigdbhaaGreatDoorHD
import Derived.Test.YtkaifdgeigdbhaaGreatDoorC3
set_option linter.all false
noncomputable section
namespace Ab
open Go
section
set_option maxRecDepth 100000
section
variable (F150:Int->(Option Cell)) (F159:Int->(Option ByteArray)) (F160:Int->(Option Int)) (F161:ByteArray->Int->(Option (Int×Bool)))
end
end
section
set_option maxRecDepth 100000
section
variable (F245:LN->(Option ((List ByteArray)×Err))) (F297:(List ByteArray)->ByteArray->(Option Bool)) (F298_299:LN->(LC×(List ByteArray))->(Option Cell)) (F299:ByteArray->LC->(List ByteArray)->(Option Cell)) (F300:(List ByteArray)->ByteArray->(Option Int)) (F33:Cell->Cell->Int->(Option Cell)) (F34:Cell->Cell->(Option Cell)) (F35:Cell->Cell->(Option Cell)) (F52:Cell->(Option Err)) (F8:Int->(Option Cell))
end
end
section
set_option maxRecDepth 100000
section
variable (F146:Cell->Cell->Int->(Option Cell)) (F147:Cell->Cell->(Option Cell)) (F148:Cell->Cell->(Option Cell)) (F150:Int->(Option Cell)) (F291:(List ByteArray)->ByteArray->(Option Int)) (F292:LN->Int->(List ByteArray)->LC->(Option Cell)) (F97:ByteArray->(Option Int))
def zgw (a0:LN) (x1:(Int×LI)):Option (LR (Int×LI) Int) :=
 br (decide (x1.1 < (a0.length:Int)))
 (jn (σ:=(List Int)) (α:=(LR (Int×(List Int)) Int)) (bno (zB a0 x1.1) fun y2 =>
 jn (σ:=Bool) (α:=(Sum (List Int) (LR (Int×(List Int)) Int))) (br (decide ((Node.op y2) < (1:Int)))
 (zu (some true))
 (zu (some (decide ((6:Int) < (Node.op y2)))))) fun x3 =>
 br x3
 (zcy (jU (some (1:Int))))
 (br (decide ((Node.op y2)=(1:Int)))
 (jn (σ:=Bool) (α:=(Sum (List Int) (LR (Int×(List Int)) Int))) (br (decide ((Node.n y2) < (0:Int)))
 (zu (some true))
 (zu (some (decide ((1000000:Int) < (Node.n y2)))))) fun x4 =>
 br x4
 (zcy (jU (some (1:Int))))
 (jn (σ:=Bool) (α:=(Sum (List Int) (LR (Int×(List Int)) Int))) (br (decide (¬ (Node.name y2)=(⟨#[]⟩:ByteArray)))
 (zu (some true))
 (br (decide (¬ (Node.left y2)=(0:Int)))
 (zu (some true))
 (zu (some (decide (¬ (Node.right y2)=(0:Int))))))) fun x5 =>
 br x5
 (zcy (jU (some (3:Int))))
 (zu (some x1.2))))
 (br (decide ((Node.op y2)=(2:Int)))
 (bno (F97 (Node.name y2)) fun y6 =>
 br (decide (¬ y6=(0:Int)))
 (zcy (jU (some (2:Int))))
 (jn (σ:=Bool) (α:=(Sum (List Int) (LR (Int×(List Int)) Int))) (br (decide (¬ (Node.n y2)=(0:Int)))
 (zu (some true))
 (br (decide (¬ (Node.left y2)=(0:Int)))
 (zu (some true))
 (zu (some (decide (¬ (Node.right y2)=(0:Int))))))) fun x7 =>
 br x7
 (zcy (jU (some (3:Int))))
 (zu (some x1.2))))
 (jn (σ:=Bool) (α:=(Sum (List Int) (LR (Int×(List Int)) Int))) (br (decide ((Node.left y2) < (0:Int)))
 (zu (some true))
 (br (decide (x1.1<=(Node.left y2)))
 (zu (some true))
 (br (decide ((Node.right y2) < (0:Int)))
 (zu (some true))
 (zu (some (decide (x1.1<=(Node.right y2)))))))) fun x8 =>
 br x8
 (zcy (jU (some (1:Int))))
 (jn (σ:=Bool) (α:=(Sum (List Int) (LR (Int×(List Int)) Int))) (br (decide (¬ (Node.n y2)=(0:Int)))
 (zu (some true))
 (zu (some (decide (¬ (Node.name y2)=(⟨#[]⟩:ByteArray)))))) fun x9 =>
 br x9
 (zcy (jU (some (3:Int))))
 (ck (decide (0<=Node.left y2∧Node.left y2 < (x1.2.length:Int))) <|
 bno ((x1.2)[(Int.toNat (Node.left y2))]?) fun fj =>
 ck (decide (0<=Node.left y2∧Node.left y2 < (x1.2.length:Int))) <|
 bno ((x1.2)[(Int.toNat (Node.left y2))]?) fun cR =>
 ck (decide (0<=Node.right y2∧Node.right y2 < ((List.length (List.set x1.2 (Int.toNat (Node.left y2)) (wi (fj+(1:Int)))):Nat):Int))) <|
 bno ((List.set x1.2 (Int.toNat (Node.left y2)) (wi (fj+(1:Int))))[(Int.toNat (Node.right y2))]?) fun mH =>
 ck (decide (0<=Node.right y2∧Node.right y2 < ((List.length (List.set x1.2 (Int.toNat (Node.left y2)) (wi (fj+(1:Int)))):Nat):Int))) <|
 bno ((List.set x1.2 (Int.toNat (Node.left y2)) (wi (fj+(1:Int))))[(Int.toNat (Node.right y2))]?) fun dp =>
 zu (some (List.set (List.set x1.2 (Int.toNat (Node.left y2)) (wi (fj+(1:Int)))) (Int.toNat (Node.right y2)) (wi (mH+(1:Int))))))))))) fun iu =>
 nxO (some (wi (x1.1+(1:Int)),iu)))
 (dnO (some (x1.1,x1.2)))
def zgv (a0:LN) (iT:(Int×LI)) (eW:Int):Option (LR Int Int) :=
 br (decide (eW < (wi ((a0.length:Int) - (1:Int)))))
 (ck (decide (0<=eW∧eW < (iT.2.length:Int))) <|
 bno ((iT.2)[(Int.toNat eW)]?) fun y17 =>
 br (decide (¬ y17=(1:Int)))
 (jU (some (3:Int)))
 (nxO (some (wi (eW+(1:Int))))))
 (dnO (some eW))
def S240 (a0:LN):Option Int :=
 br (decide ((a0.length:Int)=(0:Int)))
 (some (5:Int))
 (br (decide ((30:Int) < (a0.length:Int)))
 (some (4:Int))
 (ck (decide (0<=(a0.length:Int)∧(a0.length:Int)<=(a0.length:Int)∧(a0.length:Int)<=zP)) <|
 lp (zgw F97 a0) ((0:Int),List.replicate (Int.toNat (a0.length:Int)) (0:Int)) fun iT =>
 lp (zgv a0 iT) (0:Int) fun lS =>
 some (0:Int)))
def P240:=S240 P97
end
end
end Ab
