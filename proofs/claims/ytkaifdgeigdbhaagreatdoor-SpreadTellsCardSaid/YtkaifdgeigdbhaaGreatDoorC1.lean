import Derived.Test.YtkaifdgeigdbhaaGreatDoorF1
set_option linter.all false
noncomputable section
namespace Ab
open Go
section
set_option maxRecDepth 100000
section
variable (F105:Err->(Option Int))
def tc28:TCode:=.seq (rg [om 4 (cb false)]) (.seq (.seq (rg [om 6 0,oq 7 (.len false 6),om 8 1,oq 9 (.len false 8),oq 10 (.bin .int .neq 7 9)]) (.cond 10 (.seq (rg [om 4 (cb false)]) (.ret)) (.skip))) (.seq (.seq (rg [om 5 (ci 0)]) (.loop ⟨[.slot 5 .int],[11,12,13,14,15,16,17,18,19,20,21,22,23,24,25],[],[]⟩ 0 (.seq (.seq (rg [om 11 5,om 12 0,oq 13 (.len false 12),oq 14 (.bin .int .lss 11 13)]) (.cond 14 (.skip) (.exit 0))) (.seq (.block 1 (.seq (.region [om 17 0,om 18 5,od 19 (.ia 1 17 18) [0,1],od 20 (.load none 19) [2],om 21 1,om 22 5,od 23 (.ia 1 21 22) [4,5],od 24 (.load none 23) [6],od 25 (.bin .int .neq 20 24) [3,7]] [] true) (.cond 25 (.seq (rg [om 4 (cb false)]) (.ret)) (.skip)))) (rg [om 15 5,oq 16 (.bin .int .add 15 (ci 1)),om 5 16]))))) (.seq (rg [om 4 (cb true)]) (.ret)))) 
def tf28:TFunc:=⟨2,26,[.tmp 4],false,tc28,[]⟩
def S28_L1 (a0:LI) (a1:LI) (x1:Int):Option (LR Int Bool) :=
 br (decide (x1 < (a0.length:Int)))
 (bno (zo a0 x1) fun y2 =>
 bno (zo a1 x1) fun y3 =>
 br (decide (¬ y2=y3))
 (qP (some false))
 (nxO (some (wi (x1+(1:Int))))))
 (dnO (some x1))
def S28 (a0:LI) (a1:LI):Option Bool :=
 br (decide (¬ (a0.length:Int)=(a1.length:Int)))
 (some false)
 (lp (S28_L1 a0 a1) (0:Int) fun x4 =>
 some true)
def P28:=S28
def k28:CSpec:=⟨28,[(.sl .int),(.sl .int)],.bool,fun x=>P28 x.1 x.2,false,[]⟩
def r28 {S:Seat} (h:Ok1 S 28 tf28):RtF S [] (Rt S k28):=okr h rfl fun x=>by kernel_rfl
def tc104:TCode:=.seq (rg [om 4 (cb false)]) (.seq (.seq (rg [om 6 0,oq 7 (.len false 6),om 8 1,oq 9 (.len false 8),oq 10 (.bin .int .neq 7 9)]) (.cond 10 (.seq (rg [om 4 (cb false)]) (.ret)) (.skip))) (.seq (.seq (rg [om 5 (ci 0)]) (.loop ⟨[.slot 5 .int],[11,12,13,14,15,16,17,18,19,20,21,22,23,24,25],[],[]⟩ 0 (.seq (.seq (rg [om 11 5,om 12 0,oq 13 (.len false 12),oq 14 (.bin .int .lss 11 13)]) (.cond 14 (.skip) (.exit 0))) (.seq (.block 1 (.seq (.region [om 17 0,om 18 5,od 19 (.ia 1 17 18) [0,1],od 20 (.load none 19) [2],om 21 1,om 22 5,od 23 (.ia 1 21 22) [4,5],od 24 (.load none 23) [6],od 25 (.bin .int .neq 20 24) [3,7]] [] true) (.cond 25 (.seq (rg [om 4 (cb false)]) (.ret)) (.skip)))) (rg [om 15 5,oq 16 (.bin .int .add 15 (ci 1)),om 5 16]))))) (.seq (rg [om 4 (cb true)]) (.ret)))) 
def tf104:TFunc:=⟨2,26,[.tmp 4],false,tc104,[]⟩
def zjo (a0:LI) (a1:LI) (x1:Int):Option (LR Int Bool) :=
 br (decide (x1 < (a0.length:Int)))
 (bno (zo a0 x1) fun y2 =>
 bno (zo a1 x1) fun y3 =>
 br (decide (¬ y2=y3))
 (qP (some false))
 (nxO (some (wi (x1+(1:Int))))))
 (dnO (some x1))
def S104 (a0:LI) (a1:LI):Option Bool :=
 br (decide (¬ (a0.length:Int)=(a1.length:Int)))
 (some false)
 (lp (zjo a0 a1) (0:Int) fun x4 =>
 some true)
def P104:=S104
def k104:CSpec:=⟨104,[(.sl .int),(.sl .int)],.bool,fun x=>P104 x.1 x.2,false,[]⟩
def r104 {S:Seat} (h:Ok1 S 104 tf104):RtF S [] (Rt S k104):=okr h rfl fun x=>by kernel_rfl
def tc92:TCode:=.seq (rg [om 4 (cb false)]) (.seq (rg [om 6 0,oq 7 (.call false [] 105 [6]),om 5 7]) (.seq (rg [om 8 5,om 9 1,oq 10 (.bin .int .eql 8 9),om 4 10]) (.ret))) 
def tf92:TFunc:=⟨2,11,[.tmp 4],false,tc92,[]⟩
def S92 (a0:Err) (a1:Int):Option Bool :=
 bno (F105 a0) fun y1 =>
 some (decide (y1=a1))
def P92:=S92 P105
def k92:CSpec:=⟨92,[.err,.int],.bool,fun x=>P92 x.1 x.2,false,[]⟩
def r92 {S:Seat} (h:Ok1 S 92 tf92):RtF S [k105] (Rt S k92):=okr h rfl fun x=>by kernel_rfl
end
end
section
set_option maxRecDepth 100000
section
variable (F28:LI->LI->(Option Bool))
end
end
section
set_option maxRecDepth 100000
section
variable (F50:ByteArray->Int->(Option Dim)) (F68:Int->(Option ByteArray))
end
end
end Ab
