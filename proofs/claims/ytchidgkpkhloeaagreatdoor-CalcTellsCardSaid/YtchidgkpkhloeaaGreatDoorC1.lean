import Derived.Test.YtchidgkpkhloeaaGreatDoorF1
set_option linter.all false
noncomputable section
namespace Ab
open Go
section
set_option maxRecDepth 100000
section
variable (F105:Err->(Option Int))
def pc:TCode:=.seq (rg [om 4 (cb false)]) (.seq (.seq (rg [om 6 0,oq 7 (.len false 6),om 8 1,oq 9 (.len false 8),oq 10 (.bin .int .neq 7 9)]) (.cond 10 (.seq (rg [om 4 (cb false)]) (.ret)) (.skip))) (.seq (.seq (rg [om 5 (ci 0)]) (.loop ⟨[.slot 5 .int],[11,12,13,14,15,16,17,18,19,20,21,22,23,24,25],[],[]⟩ 0 (.seq (.seq (rg [om 11 5,om 12 0,oq 13 (.len false 12),oq 14 (.bin .int .lss 11 13)]) (.cond 14 (.skip) (.exit 0))) (.seq (.block 1 (.seq (.region [om 17 0,om 18 5,od 19 (.ia 2 17 18) [0,1],od 20 (.load (some 2) 19) [2],om 21 1,om 22 5,od 23 (.ia 2 21 22) [4,5],od 24 (.load (some 2) 23) [6],od 25 (.eqa true [(0,.int),(1,.int)] 20 24) [3,7]] [] true) (.cond 25 (.seq (rg [om 4 (cb false)]) (.ret)) (.skip)))) (rg [om 15 5,oq 16 (.bin .int .add 15 (ci 1)),om 5 16]))))) (.seq (rg [om 4 (cb true)]) (.ret)))) 
def oY:TFunc:=⟨2,26,[.tmp 4],false,pc,[]⟩
def S24_L1 (a0:LC) (a1:LC) (x1:Int):Option (LR Int Bool) :=
 br (decide (x1 < (a0.length:Int)))
 (bno (zl a0 x1) fun y2 =>
 bno (zl a1 x1) fun y3 =>
 br (!(decide ((Cell.k y2)=(Cell.k y3)) && (decide ((Cell.n y2)=(Cell.n y3)) && true)))
 (qX (some false))
 (nxO (some (wi (x1+(1:Int))))))
 (dnO (some x1))
def S24 (a0:LC) (a1:LC):Option Bool :=
 br (decide (¬ (a0.length:Int)=(a1.length:Int)))
 (some false)
 (lp (S24_L1 a0 a1) (0:Int) fun x4 =>
 some true)
def P24:=S24
def ry:CSpec:=⟨24,[(.sl .cell),(.sl .cell)],.bool,fun x=>P24 x.1 x.2,false,[]⟩
def r24 {S:Seat} (h:Ok1 S 24 oY):RtF S [] (Rt S ry):=okr h rfl fun x=>by kernel_rfl
def pb:TCode:=.seq (rg [om 4 (cb false)]) (.seq (.seq (rg [om 6 0,oq 7 (.len false 6),om 8 1,oq 9 (.len false 8),oq 10 (.bin .int .neq 7 9)]) (.cond 10 (.seq (rg [om 4 (cb false)]) (.ret)) (.skip))) (.seq (.seq (rg [om 5 (ci 0)]) (.loop ⟨[.slot 5 .int],[11,12,13,14,15,16,17,18,19,20,21,22,23,24,25],[],[]⟩ 0 (.seq (.seq (rg [om 11 5,om 12 0,oq 13 (.len false 12),oq 14 (.bin .int .lss 11 13)]) (.cond 14 (.skip) (.exit 0))) (.seq (.block 1 (.seq (.region [om 17 0,om 18 5,od 19 (.ia 1 17 18) [0,1],od 20 (.load none 19) [2],om 21 1,om 22 5,od 23 (.ia 1 21 22) [4,5],od 24 (.load none 23) [6],od 25 (.bin .int .neq 20 24) [3,7]] [] true) (.cond 25 (.seq (rg [om 4 (cb false)]) (.ret)) (.skip)))) (rg [om 15 5,oq 16 (.bin .int .add 15 (ci 1)),om 5 16]))))) (.seq (rg [om 4 (cb true)]) (.ret)))) 
def oX:TFunc:=⟨2,26,[.tmp 4],false,pb,[]⟩
def S28_L1 (a0:LI) (a1:LI) (x1:Int):Option (LR Int Bool) :=
 br (decide (x1 < (a0.length:Int)))
 (bno (zl a0 x1) fun y2 =>
 bno (zl a1 x1) fun y3 =>
 br (decide (¬ y2=y3))
 (qX (some false))
 (nxO (some (wi (x1+(1:Int))))))
 (dnO (some x1))
def S28 (a0:LI) (a1:LI):Option Bool :=
 br (decide (¬ (a0.length:Int)=(a1.length:Int)))
 (some false)
 (lp (S28_L1 a0 a1) (0:Int) fun x4 =>
 some true)
def P28:=S28
def ru:CSpec:=⟨28,[(.sl .int),(.sl .int)],.bool,fun x=>P28 x.1 x.2,false,[]⟩
def r28 {S:Seat} (h:Ok1 S 28 oX):RtF S [] (Rt S ru):=okr h rfl fun x=>by kernel_rfl
def mN:TCode:=.seq (rg [om 4 (cb false)]) (.seq (.seq (rg [om 6 0,oq 7 (.len false 6),om 8 1,oq 9 (.len false 8),oq 10 (.bin .int .neq 7 9)]) (.cond 10 (.seq (rg [om 4 (cb false)]) (.ret)) (.skip))) (.seq (.seq (rg [om 5 (ci 0)]) (.loop ⟨[.slot 5 .int],[11,12,13,14,15,16,17,18,19,20,21,22,23,24,25],[],[]⟩ 0 (.seq (.seq (rg [om 11 5,om 12 0,oq 13 (.len false 12),oq 14 (.bin .int .lss 11 13)]) (.cond 14 (.skip) (.exit 0))) (.seq (.block 1 (.seq (.region [om 17 0,om 18 5,od 19 (.ia 1 17 18) [0,1],od 20 (.load none 19) [2],om 21 1,om 22 5,od 23 (.ia 1 21 22) [4,5],od 24 (.load none 23) [6],od 25 (.bin .int .neq 20 24) [3,7]] [] true) (.cond 25 (.seq (rg [om 4 (cb false)]) (.ret)) (.skip)))) (rg [om 15 5,oq 16 (.bin .int .add 15 (ci 1)),om 5 16]))))) (.seq (rg [om 4 (cb true)]) (.ret)))) 
def lR:TFunc:=⟨2,26,[.tmp 4],false,mN,[]⟩
def zi4 (a0:LI) (a1:LI) (x1:Int):Option (LR Int Bool) :=
 br (decide (x1 < (a0.length:Int)))
 (bno (zl a0 x1) fun y2 =>
 bno (zl a1 x1) fun y3 =>
 br (decide (¬ y2=y3))
 (qX (some false))
 (nxO (some (wi (x1+(1:Int))))))
 (dnO (some x1))
def S104 (a0:LI) (a1:LI):Option Bool :=
 br (decide (¬ (a0.length:Int)=(a1.length:Int)))
 (some false)
 (lp (zi4 a0 a1) (0:Int) fun x4 =>
 some true)
def P104:=S104
def iF:CSpec:=⟨104,[(.sl .int),(.sl .int)],.bool,fun x=>P104 x.1 x.2,false,[]⟩
def rj {S:Seat} (h:Ok1 S 104 lR):RtF S [] (Rt S iF):=okr h rfl fun x=>by kernel_rfl
def pa:TCode:=.seq (rg [om 4 (cb false)]) (.seq (rg [om 6 0,oq 7 (.call false [] 105 [6]),om 5 7]) (.seq (rg [om 8 5,om 9 1,oq 10 (.bin .int .eql 8 9),om 4 10]) (.ret))) 
def oW:TFunc:=⟨2,11,[.tmp 4],false,pa,[]⟩
def S92 (a0:Err) (a1:Int):Option Bool :=
 bno (F105 a0) fun y1 =>
 some (decide (y1=a1))
def P92:=S92 P105
def rr:CSpec:=⟨92,[.err,.int],.bool,fun x=>P92 x.1 x.2,false,[]⟩
def r92 {S:Seat} (h:Ok1 S 92 oW):RtF S [mX] (Rt S rr):=okr h rfl fun x=>by kernel_rfl
end
end
section
set_option maxRecDepth 100000
section
variable (F28:LI->LI->(Option Bool))
def mG:TCode:=.seq (rg [om 4 (cb false)]) (.seq (.seq (rg [om 7 0,oq 8 (.len false 7),om 9 1,oq 10 (.len false 9),oq 11 (.bin .int .neq 8 10)]) (.cond 11 (.seq (rg [om 4 (cb false)]) (.ret)) (.skip))) (.seq (.seq (rg [om 5 (ci 0)]) (.loop ⟨[.slot 5 .int],[6,12,13,14,15,16,17,18,19,20,21,22,23,24,25,26,27,28],[],[]⟩ 0 (.seq (.seq (rg [om 12 5,om 13 0,oq 14 (.len false 13),oq 15 (.bin .int .lss 12 14)]) (.cond 15 (.skip) (.exit 0))) (.seq (.block 1 (.seq (.region [om 18 0,om 19 5,od 20 (.ia 1 18 19) [0,1],od 21 (.load none 20) [2],om 22 1,om 23 5,od 24 (.ia 1 22 23) [4,5],od 25 (.load none 24) [6],od 26 (.call false [] 28 [21,25]) [3,7],od 6 (.mov 26) [8,8,0,1,2,3,4,5,6,7,8]] [] true) (.seq (rg [om 27 6,oq 28 (.un .not 27)]) (.cond 28 (.seq (rg [om 4 (cb false)]) (.ret)) (.skip))))) (rg [om 16 5,oq 17 (.bin .int .add 16 (ci 1)),om 5 17]))))) (.seq (rg [om 4 (cb true)]) (.ret)))) 
def lM:TFunc:=⟨2,29,[.tmp 4],false,mG,[]⟩
def oG (a0:(List LI)) (a1:(List LI)) (x1:Int):Option (LR Int Bool) :=
 br (decide (x1 < (a0.length:Int)))
 (bno (zl a0 x1) fun y2 =>
 bno (zl a1 x1) fun y3 =>
 bno (F28 y2 y3) fun y4 =>
 br (!y4)
 (qX (some false))
 (nxO (some (wi (x1+(1:Int))))))
 (dnO (some x1))
def S128 (a0:(List LI)) (a1:(List LI)):Option Bool :=
 br (decide (¬ (a0.length:Int)=(a1.length:Int)))
 (some false)
 (lp (oG F28 a0 a1) (0:Int) fun x5 =>
 some true)
def P128:=S128 P28
def iB:CSpec:=⟨128,[(.sl (.sl .int)),(.sl (.sl .int))],.bool,fun x=>P128 x.1 x.2,false,[]⟩
def pY {S:Seat} (h:Ok1 S 128 lM):RtF S [ru] (Rt S iB):=okr h rfl fun x=>by kernel_rfl
end
end
section
set_option maxRecDepth 100000
section
variable (F50:ByteArray->Int->(Option Dim)) (F68:Int->(Option ByteArray))
end
end
end Ab
