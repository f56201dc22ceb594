import Derived.Test.YtkaifdgeigdbhaaGreatDoorHB
set_option linter.all false
noncomputable section
namespace Ab
open Go
section
set_option maxRecDepth 100000
section
variable (F40:LD->(Option Int)) (F44:Dim->Int->(Option Bool)) (F51:LD->(Option Err)) (F69:LD->Int->(Option LI))
def tc58:TCode:=.seq (rg [oq 2 (.box 0),om 4 cz]) (.seq (.seq (rg [om 7 1,oq 8 (.len false 7),oq 9 (.fa 0 2),oq 10 (.load none 9),oq 11 (.len false 10),oq 12 (.bin .int .neq 8 11)]) (.cond 12 (.seq (rg [oq 13 (.ifc 1 (ci 3)),om 4 13]) (.ret)) (.skip))) (.seq (.seq (rg [om 14 1,oq 15 (.len false 14),om 16 (ci 0)]) (.loop ⟨[.slot 16 .int],[5,6,17,18,19,20,21,22,23,24,25,26,27,28,29,30,31,32,33,35],[],[]⟩ 0 (.seq (rg [oq 17 (.bin .int .lss 16 15)]) (.seq (.cond 17 (.skip) (.exit 0)) (.seq (.block 1 (.seq (rg [om 18 16,oq 19 (.ia 1 14 16),oq 20 (.load none 19),om 5 18,om 6 20]) (.seq (.regionJ ⟨[.slot 33 .bool],[21,22,23,24,25,26,27,28,29,30,31,32],[],[]⟩ [om 21 6,oq 22 (.bin .int .lss 21 (ci 0)),om 23 22,og 24 (.mov 6) 23 false [],og 25 (.fa 0 2) 23 false [],og 26 (.load none 25) 23 false [],og 27 (.mov 5) 23 false [],og 28 (.ia 3 26 27) 23 false [],og 29 (.fa 2 28) 23 false [],og 30 (.load none 29) 23 false [],og 31 (.len false 30) 23 false [],og 32 (.bin .int .geq 24 31) 23 false [],oq 33 (.pick 23 (cb true) 32)] [] false) (.cond 33 (.seq (rg [oq 34 (.ifc 1 (ci 1)),om 4 34]) (.ret)) (.skip))))) (rg [oq 35 (.bin .int .add 16 (ci 1)),om 16 35])))))) (.seq (rg [om 4 cz]) (.ret)))) 
def tf58:TFunc:=⟨2,36,[.tmp 4],false,tc58,[]⟩
def S58_L1 (a0:LD) (a1:LI) (x1:Int):Option (LR Int Err) :=
 br (decide (x1 < (a1.length:Int)))
 (bno (zA a1 x1) fun y2 =>
 jn (σ:=Bool) (α:=(LR Int Err)) (br (decide (y2 < (0:Int)))
 (zt (some true))
 (bno (zA a0 x1) fun y3 =>
 zt (some (decide (((Dim.members y3).length:Int)<=y2))))) fun x4 =>
 br x4
 (ya (some (Err.no (1:Int))))
 (nxO (some (wi (x1+(1:Int))))))
 (dnO (some x1))
def S58 (a0:LD) (a1:LI):Option Err :=
 br (decide (¬ (a1.length:Int)=(a0.length:Int)))
 (some (Err.no (3:Int)))
 (lp (S58_L1 a0 a1) (0:Int) fun x5 =>
 some Err.nil)
def P58:=S58
def k58:CSpec:=⟨58,[(.st .outl),(.sl .int)],.err,fun x=>P58 x.1 x.2,false,[]⟩
def r58 {S:Seat} (h:Ok1 S 58 tf58):RtF S [] (Rt S k58):=okr h rfl fun x=>by kernel_rfl
def tc59:TCode:=.seq (rg [oq 2 (.box 0),om 4 (cb false)]) (.seq (.seq (rg [om 7 1,oq 8 (.len false 7),om 9 (ci 0)]) (.loop ⟨[.slot 9 .int],[5,6,10,11,12,13,14,15,16,17,18,19,20,21,22],[],[]⟩ 0 (.seq (rg [oq 10 (.bin .int .lss 9 8)]) (.seq (.cond 10 (.skip) (.exit 0)) (.seq (.block 1 (.seq (rg [om 11 9,oq 12 (.ia 1 7 9),oq 13 (.load none 12),om 5 11,om 6 13]) (.seq (rg [oq 14 (.fa 0 2),oq 15 (.load none 14),om 16 5,oq 17 (.ia 3 15 16),oq 18 (.load (some 3) 17),om 19 6,oq 20 (.call false [] 44 [18,19]),oq 21 (.un .not 20)]) (.cond 21 (.seq (rg [om 4 (cb false)]) (.ret)) (.skip))))) (rg [oq 22 (.bin .int .add 9 (ci 1)),om 9 22])))))) (.seq (rg [om 4 (cb true)]) (.ret))) 
def tf59:TFunc:=⟨2,23,[.tmp 4],false,tc59,[]⟩
def S59_L1 (a0:LD) (a1:LI) (x1:Int):Option (LR Int Bool) :=
 br (decide (x1 < (a1.length:Int)))
 (bno (zA a1 x1) fun y2 =>
 bno (zA a0 x1) fun y3 =>
 bno (F44 y3 y2) fun y4 =>
 br (!y4)
 (ya (some false))
 (nxO (some (wi (x1+(1:Int))))))
 (dnO (some x1))
def S59 (a0:LD) (a1:LI):Option Bool :=
 lp (S59_L1 F44 a0 a1) (0:Int) fun x5 =>
 some true
def P59:=S59 P44
def k59:CSpec:=⟨59,[(.st .outl),(.sl .int)],.bool,fun x=>P59 x.1 x.2,false,[]⟩
def r59 {S:Seat} (h:Ok1 S 59 tf59):RtF S [k44] (Rt S k59):=okr h rfl fun x=>by kernel_rfl
end
end
section
set_option maxRecDepth 100000
section
variable (F114:LD->LI->(Option Err)) (F49:LD->LI->(Option Int)) (F51:LD->(Option Err)) (F58:LD->LI->(Option Err)) (F59:LD->LI->(Option Bool))
def tc114:TCode:=.seq (rg [oq 2 (.box 0),om 4 cz]) (.seq (.seq (rg [oq 6 (.load (some 1) 2),oq 7 (.call false [] 51 [6]),om 5 7]) (.seq (rg [om 8 5,oq 9 (.eqn false true 8)]) (.cond 9 (.seq (rg [om 10 5,om 4 10]) (.ret)) (.skip)))) (.seq (rg [oq 11 (.load (some 1) 2),om 12 1,oq 13 (.call false [] 58 [11,12]),om 4 13]) (.ret))) 
def tf114:TFunc:=⟨2,14,[.tmp 4],false,tc114,[]⟩
def S114 (a0:LD) (a1:LI):Option Err :=
 bno (F51 a0) fun y1 =>
 br (!(Err.isNil y1))
 (some y1)
 (bno (F58 a0 a1) fun y2 =>
 some y2)
def P114:=S114 P51 P58
def k114:CSpec:=⟨114,[(.st .outl),(.sl .int)],.err,fun x=>P114 x.1 x.2,false,[]⟩
def r114 {S:Seat} (h:Ok1 S 114 tf114):RtF S [k51,k58] (Rt S k114):=okr h rfl fun x=>by kernel_rfl
end
end
end Ab
