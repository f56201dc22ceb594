/-
  Functions of the program as typed code, what they come to, and their contracts: written by program (mk.py).
-/
import Derived.Test.YtcknjppeompbkaaGreatDoorB2
set_option linter.all false
noncomputable section
namespace Ab
open Go
set_option maxRecDepth 100000
section
variable (F100:Dim->Int->(Option LI)) (F102:Dim->Int->(Option Bool)) (F103:Dim->Int->Int->(Option (Int×Bool))) (F106:LD->(Option Int)) (F95:Dim->(Option (Int×Int))) (F96:Dim->ByteArray->(Option Int)) (F97:ByteArray->(Option Int))
def S97_L1 (a0:ByteArray) (x2:Int):Option (LR Int Int) :=
 br (decide (x2 < ((ByteArray.size a0:Nat):Int)))
 (jn (σ:=Bool) (α:=(LR Int Int)) (bno (qb (ByteArray.data a0).toList x2) fun y3 =>
 br (decide (((UInt8.toNat y3:Nat):Int) < (97:Int)))
 (zD (some true))
 (bno (qb (ByteArray.data a0).toList x2) fun y4 =>
 zD (some (decide ((122:Int) < ((UInt8.toNat y4:Nat):Int)))))) fun x5 =>
 br x5
 (wj (some (2:Int)))
 (nxO (some (wi (x2+(1:Int))))))
 (dnO (some x2))
def S97 (a0:ByteArray):Option Int :=
 jn (σ:=Bool) (α:=Int) (br (decide (a0=(⟨#[]⟩:ByteArray)))
 (zD (some true))
 (zD (some (decide ((8:Int) < ((ByteArray.size a0:Nat):Int)))))) fun x1 =>
 br x1
 (some (2:Int))
 (lp (S97_L1 a0) (0:Int) fun x6 =>
 some (0:Int))
def P97:=S97
end
end Ab
