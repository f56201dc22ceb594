import Derived.Test.YtchidgkpkhloeaaGreatDoorC1
set_option linter.unusedVariables false
noncomputable section
namespace Ab
open Go
section
set_option maxRecDepth 100000
section
variable (F100:Dim->Int->(Option LI)) (F102:Dim->Int->(Option Bool)) (F103:Dim->Int->Int->(Option (Int×Bool))) (F106:LD->(Option Int)) (F95:Dim->(Option (Int×Int))) (F96:Dim->ByteArray->(Option Int)) (F97:ByteArray->(Option Int))
def S96_L1 (a0:Dim) (a1:ByteArray) (x1:Int):Option (LR Int Int) :=
 br (decide (x1 < ((List.length (Dim.members a0):Nat):Int)))
 (bno (zj (Dim.members a0) x1) fun y2 =>
 br (decide ((Member.name y2)=a1))
 (jx (some x1))
 (nxO (some (wi (x1+(1:Int))))))
 (dnO (some x1))
def S96 (a0:Dim) (a1:ByteArray):Option Int :=
 lp (S96_L1 a0 a1) (0:Int) fun x3 =>
 some (-1:Int)
def P96:=S96
def S97_L1 (a0:ByteArray) (x2:Int):Option (LR Int Int) :=
 br (decide (x2 < ((ByteArray.size a0:Nat):Int)))
 (jn (σ:=Bool) (α:=(LR Int Int)) (bno (zj (ByteArray.data a0).toList x2) fun y3 =>
 br (decide (((UInt8.toNat y3:Nat):Int) < (97:Int)))
 (zw (some true))
 (bno (zj (ByteArray.data a0).toList x2) fun y4 =>
 zw (some (decide ((122:Int) < ((UInt8.toNat y4:Nat):Int)))))) fun x5 =>
 br x5
 (jx (some (2:Int)))
 (nxO (some (wi (x2+(1:Int))))))
 (dnO (some x2))
def S97 (a0:ByteArray):Option Int :=
 jn (σ:=Bool) (α:=Int) (br (decide (a0=(⟨#[]⟩:ByteArray)))
 (zw (some true))
 (zw (some (decide ((8:Int) < ((ByteArray.size a0:Nat):Int)))))) fun x1 =>
 br x1
 (some (2:Int))
 (lp (S97_L1 a0) (0:Int) fun x6 =>
 some (0:Int))
def P97:=S97
def zh6 (a0:Dim) (a1:Int) (x1:(LI×Int)):Option (LR (LI×Int) LI) :=
 br (decide (x1.2 < ((List.length (Dim.members a0):Nat):Int)))
 (bno (zj (Dim.members a0) x1.2) fun y2 =>
 jn (σ:=(List Int)) (α:=(LR ((List Int)×Int) (List Int))) (br (decide ((Member.parent y2)=a1))
 (ck (decide (List.length x1.1+List.length ([x1.2]:List Int)<=zu)) <|
 zw (some (x1.1++([x1.2]:List Int))))
 (zw (some x1.1))) fun x3 =>
 nxO (some (x3,wi (x1.2+(1:Int)))))
 (dnO (some (x1.1,x1.2)))
def S100 (a0:Dim) (a1:Int):Option LI :=
 lp (zh6 a0 a1) (([]:List Int),(0:Int)) fun x4 =>
 some x4.1
def P100:=S100
def S102 (a0:Dim) (a1:Int):Option Bool :=
 jn (σ:=Bool) (α:=Bool) (bno (zj (Dim.members a0) a1) fun y1 =>
 br (decide ((Member.formula y1)=(⟨#[]⟩:ByteArray)))
 (bno (F100 a0 a1) fun y2 =>
 zw (some (decide (((List.length y2:Nat):Int)=(0:Int)))))
 (zw (some false))) fun x3 =>
 some x3
def P102:=S102 P100
end
end
section
set_option maxRecDepth 100000
section
variable (F102:Dim->Int->(Option Bool)) (F103:Dim->Int->Int->(Option (Int×Bool))) (F106:LD->(Option Int)) (F123:LD->LI->(Option Int)) (F125:LD->(Option Int)) (F129:LD->LI->LI->(Option (Int×Bool))) (F130:LD->LI->(Option Bool)) (F142:LD->Int->(Option LI)) (F151:LI->LI->(Option Bool)) (F94:LD->(Option (Int×Int×Int)))
def zbw (a0:LI) (a1:LI) (x1:Int):Option (LR Int Bool) :=
 jn (σ:=Bool) (α:=(LR Int Bool)) (br (decide (x1 < ((List.length a0:Nat):Int)))
 (zw (some (decide (x1 < ((List.length a1:Nat):Int)))))
 (zw (some false))) fun x2 =>
 br x2
 (bno (zj a0 x1) fun y3 =>
 bno (zj a1 x1) fun y4 =>
 br (decide (¬ y3=y4))
 (bno (zj a0 x1) fun y5 =>
 bno (zj a1 x1) fun y6 =>
 jx (some (decide (y5 < y6))))
 (nxO (some (wi (x1+(1:Int))))))
 (dnO (some x1))
def S151 (a0:LI) (a1:LI):Option Bool :=
 lp (zbw a0 a1) (0:Int) fun x7 =>
 some (decide (((List.length a0:Nat):Int) < ((List.length a1:Nat):Int)))
def P151:=S151
def zh5 (a0:LD) (a1:LI) (x1:(Int×Int)):Option (LR (Int×Int) Int) :=
 br (decide (x1.2 < ((List.length a1:Nat):Int)))
 (bno (zj a0 x1.2) fun y2 =>
 bno (zj a1 x1.2) fun y3 =>
 nxO (some (wi ((wi (x1.1 * ((List.length (Dim.members y2):Nat):Int)))+y3),wi (x1.2+(1:Int)))))
 (dnO (some (x1.1,x1.2)))
def S140 (a0:LD) (a1:LI):Option Int :=
 lp (zh5 a0 a1) ((0:Int),(0:Int)) fun x4 =>
 some x4.1
def P140:=S140
end
end
section
set_option maxRecDepth 100000
section
variable (F122:LD->LY->(Option Int)) (F123:LD->LI->(Option Int)) (F130:LD->LI->(Option Bool)) (F135:LD->LY->Edit->(Option (LY×Int))) (F151:LI->LI->(Option Bool)) (F155:LY->LI->(Option (Int×Bool))) (F28:LI->LI->(Option Bool))
def wd (a0:LY) (a1:LI) (x1:Int):Option (LR Int (Int×Bool)) :=
 jn (σ:=Bool) (α:=(LR Int (Int×Bool))) (br (decide (x1 < ((List.length a0:Nat):Int)))
 (bno (zj a0 x1) fun y2 =>
 bno (F151 (Entry.at_ y2) a1) fun y3 =>
 zw (some y3))
 (zw (some false))) fun x4 =>
 br x4
 (nxO (some (wi (x1+(1:Int)))))
 (dnO (some x1))
def S155 (a0:LY) (a1:LI):Option (Int×Bool) :=
 lp (wd F151 a0 a1) (0:Int) fun x5 =>
 br (decide (x5=((List.length a0:Nat):Int)))
 (some (x5,false))
 (bno (zj a0 x5) fun y6 =>
 bno (F151 a1 (Entry.at_ y6)) fun y7 =>
 some (x5, !y7))
def P155:=S155 P151
def S134 (a0:LY) (a1:LI):Option Cell :=
 bno (F155 a0 a1) fun y1 =>
 br (!y1.2)
 (some (Cell.mk (0:Int) (0:Int)))
 (bno (zj a0 y1.1) fun y2 =>
 some (Cell.mk (1:Int) (Entry.n y2)))
def P134:=S134 P155
end
end
end Ab
