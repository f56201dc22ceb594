/-
  Functions of the program as typed code, what they come to, and their contracts: written by program (mk.py).
-/
import Derived.Test.YtcknjppeompbkaaGreatDoorB2
set_option linter.all false
noncomputable section
namespace Ab
open Go
set_option maxRecDepth 100000
section
variable (F30:Int->(Option Bool)) (F31_32:Cell->Cell->(Option (Cell×Err))) (F31_34:Cell->Cell->(Option (Cell×Err))) (F31_35:Cell->Cell->(Option (Cell×Err))) (F31_36:Cell->Cell->(Option (Cell×Err))) (F32:Cell->Cell->(Option Cell)) (F33:Cell->Cell->Int->(Option Cell)) (F34:Cell->Cell->(Option Cell)) (F35:Cell->Cell->(Option Cell)) (F36:Cell->Cell->(Option Cell)) (F52:Cell->(Option Err)) (F62:Int->(Option Int)) (F8:Int->(Option Cell))
def S30 (a0:Int):Option Bool :=
 jn (σ:=Bool) (α:=Bool) (br (decide ((-1000000000000:Int)<=a0))
 (zD (some (decide (a0<=(1000000000000:Int)))))
 (zD (some false))) fun x1 =>
 some x1
def P30:=S30
def S8 (a0:Int):Option Cell :=
 bno (F30 a0) fun y1 =>
 br (!y1)
 (some (Cell.mk (2:Int) (0:Int)))
 (some (Cell.mk (1:Int) a0))
def P8:=S8 P30
def S33 (a0:Cell) (a1:Cell) (a2:Int):Option Cell :=
 jn (σ:=Bool) (α:=Cell) (br (decide ((Cell.k a0)=(2:Int)))
 (zD (some true))
 (zD (some (decide ((Cell.k a1)=(2:Int)))))) fun x1 =>
 br x1
 (some (Cell.mk (2:Int) (0:Int)))
 (jn (σ:=Bool) (α:=Cell) (br (decide ((Cell.k a0)=(0:Int)))
 (zD (some (decide ((Cell.k a1)=(0:Int)))))
 (zD (some false))) fun x2 =>
 br x2
 (some (Cell.mk (0:Int) (0:Int)))
 (bno (F8 (wi ((Cell.n a0)+(wi (a2 * (Cell.n a1)))))) fun y3 =>
 some y3))
def P33:=S33 P8
def S32 (a0:Cell) (a1:Cell):Option Cell :=
 bno (F33 a0 a1 (1:Int)) fun y1 =>
 some y1
def P32:=S32 P33
def S52 (a0:Cell):Option Err :=
 jn (σ:=Bool) (α:=Err) (br (decide ((Cell.k a0) < (0:Int)))
 (zD (some true))
 (br (decide ((2:Int) < (Cell.k a0)))
 (zD (some true))
 (bno (F30 (Cell.n a0)) fun y1 =>
 br (!y1)
 (zD (some true))
 (br (decide (¬ (Cell.k a0)=(1:Int)))
 (zD (some (decide (¬ (Cell.n a0)=(0:Int)))))
 (zD (some false)))))) fun x2 =>
 br x2
 (some (Err.no (1:Int)))
 (some Err.nil)
def P52:=S52 P30
def S31_32 (a0:Cell) (a1:Cell):Option (Cell×Err) :=
 bno (F52 a0) fun y1 =>
 br (!(Err.isNil y1))
 (some (Cell.mk (0:Int) (0:Int),y1))
 (bno (F52 a1) fun y2 =>
 br (!(Err.isNil y2))
 (some (Cell.mk (0:Int) (0:Int),y2))
 (bno (F32 a0 a1) fun y3 =>
 some (y3,Err.nil)))
def P31_32:=S31_32 P32 P52
def S9 (a0:Cell) (a1:Cell):Option (Cell×Err) :=
 bno (F31_32 a0 a1) fun y1 =>
 some (y1.1,y1.2)
def P9:=S9 P31_32
def S62 (a0:Int):Option Int :=
 some (maxT a0 (wi (0 - a0)))
def P62:=S62
def S34 (a0:Cell) (a1:Cell):Option Cell :=
 jn (σ:=Bool) (α:=Cell) (br (decide ((Cell.k a0)=(2:Int)))
 (zD (some true))
 (zD (some (decide ((Cell.k a1)=(2:Int)))))) fun x1 =>
 br x1
 (some (Cell.mk (2:Int) (0:Int)))
 (jn (σ:=Bool) (α:=Cell) (br (decide ((Cell.k a0)=(0:Int)))
 (zD (some true))
 (zD (some (decide ((Cell.k a1)=(0:Int)))))) fun x2 =>
 br x2
 (some (Cell.mk (0:Int) (0:Int)))
 (jn (σ:=Bool) (α:=Cell) (br (decide (¬ (Cell.n a0)=(0:Int)))
 (bno (F62 (Cell.n a1)) fun y3 =>
 bno (F62 (Cell.n a0)) fun y4 =>
 ck (decide (¬ y4=0)) <|
 zD (some (decide ((wi (Int.tdiv (1000000000000:Int) y4)) < y3))))
 (zD (some false))) fun x5 =>
 br x5
 (some (Cell.mk (2:Int) (0:Int)))
 (bno (F8 (wi ((Cell.n a0) * (Cell.n a1)))) fun y6 =>
 some y6)))
def P34:=S34 P62 P8
def S31_34 (a0:Cell) (a1:Cell):Option (Cell×Err) :=
 bno (F52 a0) fun y1 =>
 br (!(Err.isNil y1))
 (some (Cell.mk (0:Int) (0:Int),y1))
 (bno (F52 a1) fun y2 =>
 br (!(Err.isNil y2))
 (some (Cell.mk (0:Int) (0:Int),y2))
 (bno (F34 a0 a1) fun y3 =>
 some (y3,Err.nil)))
def P31_34:=S31_34 P34 P52
def S10 (a0:Cell) (a1:Cell):Option (Cell×Err) :=
 bno (F31_34 a0 a1) fun y1 =>
 some (y1.1,y1.2)
def P10:=S10 P31_34
def S35 (a0:Cell) (a1:Cell):Option Cell :=
 jn (σ:=Bool) (α:=Cell) (br (decide ((Cell.k a0)=(2:Int)))
 (zD (some true))
 (zD (some (decide ((Cell.k a1)=(2:Int)))))) fun x1 =>
 br x1
 (some (Cell.mk (2:Int) (0:Int)))
 (jn (σ:=Bool) (α:=Cell) (br (decide ((Cell.k a0)=(0:Int)))
 (zD (some true))
 (zD (some (decide ((Cell.k a1)=(0:Int)))))) fun x2 =>
 br x2
 (some (Cell.mk (0:Int) (0:Int)))
 (br (decide ((Cell.n a1)=(0:Int)))
 (some (Cell.mk (2:Int) (0:Int)))
 (ck (decide (¬ (Cell.n a1)=0)) <|
 bno (F8 (wi (Int.tdiv (Cell.n a0) (Cell.n a1)))) fun y3 =>
 some y3)))
def P35:=S35 P8
def S31_35 (a0:Cell) (a1:Cell):Option (Cell×Err) :=
 bno (F52 a0) fun y1 =>
 br (!(Err.isNil y1))
 (some (Cell.mk (0:Int) (0:Int),y1))
 (bno (F52 a1) fun y2 =>
 br (!(Err.isNil y2))
 (some (Cell.mk (0:Int) (0:Int),y2))
 (bno (F35 a0 a1) fun y3 =>
 some (y3,Err.nil)))
def P31_35:=S31_35 P35 P52
def S11 (a0:Cell) (a1:Cell):Option (Cell×Err) :=
 bno (F31_35 a0 a1) fun y1 =>
 some (y1.1,y1.2)
def P11:=S11 P31_35
def S36 (a0:Cell) (a1:Cell):Option Cell :=
 bno (F33 a0 a1 (-1:Int)) fun y1 =>
 some y1
def P36:=S36 P33
def S31_36 (a0:Cell) (a1:Cell):Option (Cell×Err) :=
 bno (F52 a0) fun y1 =>
 br (!(Err.isNil y1))
 (some (Cell.mk (0:Int) (0:Int),y1))
 (bno (F52 a1) fun y2 =>
 br (!(Err.isNil y2))
 (some (Cell.mk (0:Int) (0:Int),y2))
 (bno (F36 a0 a1) fun y3 =>
 some (y3,Err.nil)))
def P31_36:=S31_36 P36 P52
def S12 (a0:Cell) (a1:Cell):Option (Cell×Err) :=
 bno (F31_36 a0 a1) fun y1 =>
 some (y1.1,y1.2)
def P12:=S12 P31_36
end
end Ab
