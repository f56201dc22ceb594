import Derived.Test.YtchidgkpkhloeaaGreatDoorC2
set_option linter.unusedVariables false
noncomputable section
namespace Ab
open Go
section
set_option maxRecDepth 100000
section
variable (F27:LD->LY->(Option Err)) (F51:LD->(Option Err)) (F56:LD->LY->LI->(Option Err)) (F57:LY->LI->(Option Cell)) (F58:LD->LI->(Option Err)) (F59:LD->LI->(Option Bool)) (F60:Int->(Option Bool)) (F61:Entry->Entry->(Option Int)) (F73:LY->LI->(Option (Int×Bool))) (F74:LI->LI->(Option Int)) (F80_61:LY->Entry->(Option (Int×Bool))) (F81:Int->Int->(Option Int)) (F84:Int->(Option Bool))
def S84 (a0:Int):Option Bool :=
 some (decide (¬ a0=a0))
def P84:=S84
def S81 (a0:Int) (a1:Int):Option Int :=
 bno (F84 a0) fun y1 =>
 bno (F84 a1) fun y2 =>
 br y1
 (br y2
 (some (0:Int))
 (some (-1:Int)))
 (br y2
 (some (1:Int))
 (br (decide (a0 < a1))
 (some (-1:Int))
 (br (decide (a1 < a0))
 (some (1:Int))
 (some (0:Int)))))
def P81:=S81 P84
def S74_L1 (a0:LI) (a1:LI) (x1:Int):Option (LR Int Int) :=
 br (decide (x1 < ((List.length a0:Nat):Int)))
 (bno (zq a0 x1) fun y2 =>
 br (decide (((List.length a1:Nat):Int)<=x1))
 (ya (some (1:Int)))
 (bno (zq a1 x1) fun y3 =>
 bno (F81 y2 y3) fun y4 =>
 br (decide (¬ y4=(0:Int)))
 (ya (some y4))
 (nxO (some (wi (x1+(1:Int)))))))
 (dnO (some x1))
def S74 (a0:LI) (a1:LI):Option Int :=
 lp (S74_L1 F81 a0 a1) (0:Int) fun x5 =>
 br (decide (((List.length a0:Nat):Int) < ((List.length a1:Nat):Int)))
 (some (-1:Int))
 (some (0:Int))
def P74:=S74 P81
def S61 (a0:Entry) (a1:Entry):Option Int :=
 bno (F74 (Entry.at_ a0) (Entry.at_ a1)) fun y1 =>
 some y1
def P61:=S61 P74
def S80_61_L1 (a0:LY) (a1:Entry) (x1:(Int×Int)):Option (LR (Int×Int) (Int×Bool)) :=
 br (decide (x1.1 < x1.2))
 (bno (zq a0 (wi ((IntKind.wrap .u64 (wi (x1.1+x1.2))) / 2))) fun y2 =>
 bno (F61 y2 a1) fun y3 =>
 jn (σ:=(Int×Int)) (α:=(LR (Int×Int) (Int×Bool))) (br (decide (y3 < (0:Int)))
 (zx (some (wi ((wi ((IntKind.wrap .u64 (wi (x1.1+x1.2))) / 2))+(1:Int)),x1.2)))
 (zx (some (x1.1,wi ((IntKind.wrap .u64 (wi (x1.1+x1.2))) / 2))))) fun x4 =>
 nxO (some (x4.1,x4.2)))
 (dnO (some (x1.1,x1.2)))
def S80_61 (a0:LY) (a1:Entry):Option (Int×Bool) :=
 lp (S80_61_L1 F61 a0 a1) ((0:Int),((List.length a0:Nat):Int)) fun x5 =>
 jn (σ:=(Int×Bool)) (α:=(Int×Bool)) (br (decide (x5.1 < ((List.length a0:Nat):Int)))
 (bno (zq a0 x5.1) fun y6 =>
 bno (F61 y6 a1) fun y7 =>
 zx (some (x5.1,decide (y7=(0:Int)))))
 (zx (some (x5.1,false)))) fun x8 =>
 some (x8.1,x8.2)
def P80_61:=S80_61 P61
def S60 (a0:Int):Option Bool :=
 jn (σ:=Bool) (α:=Bool) (br (decide ((-1000000:Int)<=a0))
 (zx (some (decide (a0<=(1000000:Int)))))
 (zx (some false))) fun x1 =>
 some x1
def P60:=S60
def S27_L1 (a0:LD) (a1:LY) (x2:Int):Option (LR Int Err) :=
 br (decide (x2 < ((List.length a1:Nat):Int)))
 (bno (zq a1 x2) fun y3 =>
 bno (F58 a0 (Entry.at_ y3)) fun y4 =>
 br (!(Err.isNil y4))
 (ya (some y4))
 (bno (F59 a0 (Entry.at_ y3)) fun y5 =>
 br (!y5)
 (ya (some (Err.no (6:Int))))
 (bno (F60 (Entry.n y3)) fun y6 =>
 br (!y6)
 (ya (some (Err.no (1:Int))))
 (jn (σ:=Bool) (α:=(LR Int Err)) (br (decide ((0:Int) < x2))
 (bno (zq a1 (wi (x2 - (1:Int)))) fun y7 =>
 bno (F61 y7 y3) fun y8 =>
 zx (some (decide ((0:Int)<=y8))))
 (zx (some false))) fun x9 =>
 br x9
 (ya (some (Err.no (7:Int))))
 (nxO (some (wi (x2+(1:Int)))))))))
 (dnO (some x2))
def S27 (a0:LD) (a1:LY):Option Err :=
 bno (F51 a0) fun y1 =>
 br (!(Err.isNil y1))
 (some y1)
 (lp (S27_L1 F58 F59 F60 F61 a0 a1) (0:Int) fun x10 =>
 some Err.nil)
def P27:=S27 P51 P58 P59 P60 P61
def S73 (a0:LY) (a1:LI):Option (Int×Bool) :=
 bno (F80_61 a0 (Entry.mk a1 (0:Int))) fun y1 =>
 some (y1.1,y1.2)
def P73:=S73 P80_61
def S57 (a0:LY) (a1:LI):Option Cell :=
 bno (F73 a0 a1) fun y1 =>
 br (!y1.2)
 (some (Cell.mk (0:Int) (0:Int)))
 (bno (zq a0 y1.1) fun y2 =>
 some (Cell.mk (1:Int) (Entry.n y2)))
def P57:=S57 P73
end
end
section
set_option maxRecDepth 100000
section
variable (F27:LD->LY->(Option Err)) (F33:Cell->Cell->Int->(Option Cell)) (F40:LD->(Option Int)) (F47:Dim->Int->(Option LI)) (F49:LD->LI->(Option Int)) (F51:LD->(Option Err)) (F52:Cell->(Option Err)) (F53:LC->(Option LC)) (F54:LD->LC->Int->(Option LC)) (F69:LD->Int->(Option LI)) (F70:LI->Int->Int->(Option LI)) (F76:LI->(Option LI)) (F8:Int->(Option Cell))
def tc70:TCode:=.seq (rg [om 6 cn]) (.seq (rg [om 7 0,oq 8 (.call true [] 76 [7]),om 0 8]) (.seq (rg [om 9 0,om 10 1,om 11 2,oq 12 (.ia 1 9 10),on (.store 1 12 11)]) (.seq (rg [om 13 0,om 6 13]) (.ret)))) 
def tf70:TFunc:=⟨3,14,[.tmp 6],false,tc70,[]⟩
def S70 (a0:LI) (a1:Int) (a2:Int):Option LI :=
 bno (F76 a0) fun y1 =>
 ck (decide (0<=a1∧a1 < ((List.length y1:Nat):Int))) <|
 bno ((y1)[(Int.toNat a1)]?) fun y2 =>
 some (List.set y1 (Int.toNat a1) a2)
def P70:=S70 P76
def k70:CSpec:=⟨70,[(.sl .int),.int,.int],(.sl .int),fun x=>P70 x.1 x.2.1 x.2.2,false,[]⟩
theorem r70 {S:Seat} (h:Ok1 S 70 tf70):RtF S [k76] (Rt S k70):=okr h rfl fun x=>by kernel_rfl
end
end
end Ab
