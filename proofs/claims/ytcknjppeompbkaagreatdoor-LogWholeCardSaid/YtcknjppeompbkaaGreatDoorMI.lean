/-
  Functions of the program as typed code, what they come to, and their contracts: written by program (mk.py).
-/
import Derived.Test.YtcknjppeompbkaaGreatDoorK20
set_option linter.all false
noncomputable section
namespace Ab
open Go
set_option maxRecDepth 100000
section
variable (F27:LD->LY->(Option Err)) (F51:LD->(Option Err)) (F56:LD->LY->LI->(Option Err)) (F57:LY->LI->(Option Cell)) (F58:LD->LI->(Option Err)) (F59:LD->LI->(Option Bool)) (F60:Int->(Option Bool)) (F61:Entry->Entry->(Option Int)) (F73:LY->LI->(Option (Int×Bool))) (F74:LI->LI->(Option Int)) (F80_61:LY->Entry->(Option (Int×Bool))) (F81:Int->Int->(Option Int)) (F84:Int->(Option Bool))
def tc84:TCode:=.seq (rg [om 2 (cb false)]) (.seq (rg [om 3 0,om 4 0,oq 5 (.bin .int .neq 3 4),om 2 5]) (.ret)) 
def tf84:TFunc:=⟨1,6,[.tmp 2],false,tc84,[]⟩
def S84 (a0:Int):Option Bool :=
 some (decide (¬ a0=a0))
def P84:=S84
def k84:CSpec:=⟨84,[.int],.bool,fun x=>P84 x,false,[]⟩
def r84 {S:Seat} (h:Ok1 S 84 tf84):RtF S [] (Rt S k84):=okr h rfl fun x=>by kernel_rfl
def tc81:TCode:=.seq (rg [om 4 (ci 0)]) (.seq (rg [om 7 0,oq 8 (.call false [] 84 [7]),om 5 8]) (.seq (rg [om 9 1,oq 10 (.call false [] 84 [9]),om 6 10]) (.seq (.seq (rg [om 11 5]) (.cond 11 (.seq (.seq (rg [om 12 6]) (.cond 12 (.seq (rg [om 4 (ci 0)]) (.ret)) (.skip))) (.seq (rg [om 4 (ci (-1))]) (.ret))) (.skip))) (.seq (.seq (rg [om 13 6]) (.cond 13 (.seq (rg [om 4 (ci 1)]) (.ret)) (.skip))) (.seq (.seq (rg [om 14 0,om 15 1,oq 16 (.bin .int .lss 14 15)]) (.cond 16 (.seq (rg [om 4 (ci (-1))]) (.ret)) (.skip))) (.seq (.seq (rg [om 17 0,om 18 1,oq 19 (.bin .int .gtr 17 18)]) (.cond 19 (.seq (rg [om 4 (ci 1)]) (.ret)) (.skip))) (.seq (rg [om 4 (ci 0)]) (.ret)))))))) 
def tf81:TFunc:=⟨2,20,[.tmp 4],false,tc81,[]⟩
def S81 (a0:Int) (a1:Int):Option Int :=
 bno (F84 a0) fun y1 =>
 bno (F84 a1) fun y2 =>
 br y1
 (br y2
 (some (0:Int))
 (some (-1:Int)))
 (br y2
 (some (1:Int))
 (br (decide (a0 < a1))
 (some (-1:Int))
 (br (decide (a1 < a0))
 (some (1:Int))
 (some (0:Int)))))
def P81:=S81 P84
def k81:CSpec:=⟨81,[.int,.int],.int,fun x=>P81 x.1 x.2,false,[]⟩
def r81 {S:Seat} (h:Ok1 S 81 tf81):RtF S [k84] (Rt S k81):=okr h rfl fun x=>by kernel_rfl
def tc74:TCode:=.seq (rg [om 4 (ci 0)]) (.seq (.seq (rg [om 9 0,oq 10 (.len false 9),om 11 (ci 0)]) (.loop ⟨[.slot 11 .int],[5,6,7,8,12,13,14,15,16,17,18,19,20,21,22,23,24,25,26,27,28,30],[],[]⟩ 0 (.seq (rg [oq 12 (.bin .int .lss 11 10)]) (.seq (.cond 12 (.skip) (.exit 0)) (.seq (.block 1 (.seq (rg [om 13 11,oq 14 (.ia 1 9 11),oq 15 (.load none 14),om 5 13,om 6 15]) (.seq (.seq (rg [om 16 5,om 17 1,oq 18 (.len false 17),oq 19 (.bin .int .geq 16 18)]) (.cond 19 (.seq (rg [om 4 (ci 1)]) (.ret)) (.skip))) (.seq (rg [om 20 1,om 21 5,oq 22 (.ia 1 20 21),oq 23 (.load none 22),om 7 23]) (.seq (rg [om 24 6,om 25 7,oq 26 (.call false [] 81 [24,25]),om 8 26]) (.seq (rg [om 27 8,oq 28 (.bin .int .neq 27 (ci 0))]) (.cond 28 (.seq (rg [om 29 8,om 4 29]) (.ret)) (.skip)))))))) (rg [oq 30 (.bin .int .add 11 (ci 1)),om 11 30])))))) (.seq (.seq (rg [om 31 0,oq 32 (.len false 31),om 33 1,oq 34 (.len false 33),oq 35 (.bin .int .lss 32 34)]) (.cond 35 (.seq (rg [om 4 (ci (-1))]) (.ret)) (.skip))) (.seq (rg [om 4 (ci 0)]) (.ret)))) 
def tf74:TFunc:=⟨2,36,[.tmp 4],false,tc74,[]⟩
def zee (a0:LI) (a1:LI) (x1:Int):Option (LR Int Int) :=
 br (decide (x1 < (a0.length:Int)))
 (bno (qb a0 x1) fun y2 =>
 br (decide ((a1.length:Int)<=x1))
 (wj (some (1:Int)))
 (bno (qb a1 x1) fun y3 =>
 bno (F81 y2 y3) fun y4 =>
 br (decide (¬ y4=(0:Int)))
 (wj (some y4))
 (nxO (some (wi (x1+(1:Int)))))))
 (dnO (some x1))
def S74 (a0:LI) (a1:LI):Option Int :=
 lp (zee F81 a0 a1) (0:Int) fun x5 =>
 br (decide ((a0.length:Int) < (a1.length:Int)))
 (some (-1:Int))
 (some (0:Int))
def P74:=S74 P81
def k74:CSpec:=⟨74,[(.sl .int),(.sl .int)],.int,fun x=>P74 x.1 x.2,false,[]⟩
def r74 {S:Seat} (h:Ok1 S 74 tf74):RtF S [k81] (Rt S k74):=okr h rfl fun x=>by kernel_rfl
def tc61:TCode:=.seq (rg [oq 2 (.box 0),oq 3 (.box 1),om 4 (ci 0)]) (.seq (rg [oq 5 (.fa 0 2),oq 6 (.load none 5),oq 7 (.fa 0 3),oq 8 (.load none 7),oq 9 (.call false [] 74 [6,8]),om 4 9]) (.ret)) 
def tf61:TFunc:=⟨2,10,[.tmp 4],false,tc61,[]⟩
def S61 (a0:Entry) (a1:Entry):Option Int :=
 bno (F74 (Entry.at_ a0) (Entry.at_ a1)) fun y1 =>
 some y1
def P61:=S61 P74
def k61:CSpec:=⟨61,[(.st .entry),(.st .entry)],.int,fun x=>P61 x.1 x.2,false,[]⟩
def r61 {S:Seat} (h:Ok1 S 61 tf61):RtF S [k74] (Rt S k61):=okr h rfl fun x=>by kernel_rfl
def tc80:TCode:=.seq (rg [oq 4 (.box 1),om 6 (ci 0),om 7 (cb false)]) (.seq (rg [om 12 0,oq 13 (.len false 12),om 8 13]) (.seq (rg [om 14 8,om 9 (ci 0),om 10 14]) (.seq (.loop ⟨[.slot 9 .int,.slot 10 .int],[11,15,16,17,18,19,20,21,22,23,24,25,26,27,28,29,30,31,32,33,34],[],[]⟩ 0 (.seq (.seq (rg [om 15 9,om 16 10,oq 17 (.bin .int .lss 15 16)]) (.cond 17 (.skip) (.exit 0))) (.block 1 (.seq (rg [om 18 9,om 19 10,oq 20 (.bin .int .add 18 19),oq 21 (.cvi .u64 20),oq 22 (.bin .int .shr 21 (.c (.int .u64 1))),oq 23 (.cvi .i64 22),om 11 23]) (.seq (.region [om 24 2,om 25 0,om 26 11,od 27 (.ia 2 25 26) [1,2],od 28 (.load (some 2) 27) [3],oq 29 (.load (some 2) 4),od 30 (.calld false 24 [28,29]) [0,4,5],od 31 (.bin .int .lss 30 (ci 0)) [6]] [] true) (.condJ ⟨[.slot 9 .int,.slot 10 .int],[32,33,34],[],[]⟩ 31 (rg [om 32 11,oq 33 (.bin .int .add 32 (ci 1)),om 9 33]) (rg [om 34 11,om 10 34]))))))) (.seq (.regionJ ⟨[.slot 6 .int,.slot 7 .bool],[35,36,37,38,39,40,41,42,43,44,45,46,47,48],[],[]⟩ [om 35 9,om 36 9,om 37 8,od 38 (.bin .int .lss 36 37) [1,2],od 39 (.mov 38) [3],og 40 (.mov 2) 39 true [4],og 41 (.mov 0) 39 true [4],og 42 (.mov 9) 39 true [4],og 43 (.ia 2 41 42) 39 true [6,7,4],og 44 (.load (some 2) 43) 39 true [8,4],og 45 (.load (some 2) 4) 39 true [4],og 46 (.calld false 40 [44,45]) 39 true [5,9,10,4,4],og 47 (.bin .int .eql 46 (ci 0)) 39 true [11,4],od 48 (.pick 39 47 (cb false)) [4,12],od 6 (.mov 35) [0,11,0],od 7 (.mov 48) [13,14,0,1,2,3,4,5,6,7,8,9,10,11,12,13,14]] [] true) (.ret))))) 
def tf80:TFunc:=⟨3,49,[.tmp 6,.tmp 7],false,tc80,[]⟩
def yb (a0:LY) (a1:Entry) (x1:(Int×Int)):Option (LR (Int×Int) (Int×Bool)) :=
 br (decide (x1.1 < x1.2))
 (bno (qb a0 (wi ((IntKind.wrap .u64 (wi (x1.1+x1.2))) / 2))) fun y2 =>
 bno (F61 y2 a1) fun y3 =>
 jn (σ:=(Int×Int)) (α:=(LR (Int×Int) (Int×Bool))) (br (decide (y3 < (0:Int)))
 (zD (some (wi ((wi ((IntKind.wrap .u64 (wi (x1.1+x1.2))) / 2))+(1:Int)),x1.2)))
 (zD (some (x1.1,wi ((IntKind.wrap .u64 (wi (x1.1+x1.2))) / 2))))) fun x4 =>
 nxO (some (x4.1,x4.2)))
 (dnO (some (x1.1,x1.2)))
def S80_61 (a0:LY) (a1:Entry):Option (Int×Bool) :=
 lp (yb F61 a0 a1) ((0:Int),(a0.length:Int)) fun x5 =>
 jn (σ:=(Int×Bool)) (α:=(Int×Bool)) (br (decide (x5.1 < (a0.length:Int)))
 (bno (qb a0 x5.1) fun y6 =>
 bno (F61 y6 a1) fun y7 =>
 zD (some (x5.1,decide (y7=(0:Int)))))
 (zD (some (x5.1,false)))) fun x8 =>
 some (x8.1,x8.2)
def ziy:=S80_61 P61
def k80_61:CSpec:=⟨80,[(.sl .entry),(.st .entry),(.fnc 61 [])],(.tp [.int,.bool]),fun x=>ziy x.1 x.2.1,false,[]⟩
def r80_61 {S:Seat} (h:Ok1 S 80 tf80):RtF S [k61] (Rt S k80_61):=okr h rfl fun x=>by kernel_rfl
def tc60:TCode:=.seq (rg [om 2 (cb false)]) (.seq (.regionJ ⟨[.slot 2 .bool],[3,4,5,6,7,8],[],[]⟩ [om 3 0,oq 4 (.bin .int .geq 3 (ci (-1000000))),om 5 4,og 6 (.mov 0) 5 true [],og 7 (.bin .int .leq 6 (ci 1000000)) 5 true [],oq 8 (.pick 5 7 (cb false)),om 2 8] [] false) (.ret)) 
def tf60:TFunc:=⟨1,9,[.tmp 2],false,tc60,[]⟩
def S60 (a0:Int):Option Bool :=
 jn (σ:=Bool) (α:=Bool) (br (decide ((-1000000:Int)<=a0))
 (zD (some (decide (a0<=(1000000:Int)))))
 (zD (some false))) fun x1 =>
 some x1
def P60:=S60
def k60:CSpec:=⟨60,[.int],.bool,fun x=>P60 x,false,[]⟩
def r60 {S:Seat} (h:Ok1 S 60 tf60):RtF S [] (Rt S k60):=okr h rfl fun x=>by kernel_rfl
def tc27:TCode:=.seq (rg [oq 2 (.box 0),om 4 cz]) (.seq (.seq (rg [oq 9 (.load (some 1) 2),oq 10 (.call false [] 51 [9]),om 5 10]) (.seq (rg [om 11 5,oq 12 (.eqn false true 11)]) (.cond 12 (.seq (rg [om 13 5,om 4 13]) (.ret)) (.skip)))) (.seq (.seq (rg [om 14 1,oq 15 (.len false 14),om 16 (ci 0)]) (.loop ⟨[.slot 16 .int],[6,7,8,17,18,19,20,21,22,23,24,25,26,28,29,30,31,32,33,35,36,37,38,39,41,42,43,44,45,46,47,48,49,50,51,52,53,55],[7],[]⟩ 0 (.seq (rg [oq 17 (.bin .int .lss 16 15)]) (.seq (.cond 17 (.skip) (.exit 0)) (.seq (.block 1 (.seq (rg [om 18 16,oq 19 (.ia 2 14 16),oq 20 (.load (some 2) 19),oq 7 (.alloc [.slice none 0 0,.int .i64 0]),om 6 18,on (.store 2 7 20)]) (.seq (.seq (rg [oq 21 (.load (some 1) 2),oq 22 (.fa 0 7),oq 23 (.load none 22),oq 24 (.call false [] 58 [21,23]),om 8 24]) (.seq (rg [om 25 8,oq 26 (.eqn false true 25)]) (.cond 26 (.seq (rg [om 27 8,om 4 27]) (.ret)) (.skip)))) (.block 2 (.seq (rg [oq 29 (.load (some 1) 2),oq 30 (.fa 0 7),oq 31 (.load none 30),oq 32 (.call false [] 59 [29,31]),oq 33 (.un .not 32),om 28 33]) (.cond 28 (.seq (rg [oq 34 (.ifc 1 (ci 6)),om 4 34]) (.ret)) (.seq (rg [oq 36 (.fa 1 7),oq 37 (.load none 36),oq 38 (.call false [] 60 [37]),oq 39 (.un .not 38),om 35 39]) (.cond 35 (.seq (rg [oq 40 (.ifc 1 (ci 1)),om 4 40]) (.ret)) (.seq (.regionJ ⟨[.slot 41 .bool],[42,43,44,45,46,47,48,49,50,51,52,53],[],[]⟩ [om 42 6,od 43 (.bin .int .gtr 42 (ci 0)) [0],od 44 (.mov 43) [1],og 45 (.mov 1) 44 true [2],og 46 (.mov 6) 44 true [2],og 47 (.bin .int .sub 46 (ci 1)) 44 true [4,2],og 48 (.ia 2 45 47) 44 true [3,5,2],og 49 (.load (some 2) 48) 44 true [6,2],og 50 (.load (some 2) 7) 44 true [2],og 51 (.call false [] 61 [49,50]) 44 true [7,8,2,2],og 52 (.bin .int .geq 51 (ci 0)) 44 true [9,2],od 53 (.pick 44 52 (cb false)) [2,10],od 41 (.mov 53) [11,9]] [] true) (.cond 41 (.seq (rg [oq 54 (.ifc 1 (ci 7)),om 4 54]) (.ret)) (.skip))))))))))) (rg [oq 55 (.bin .int .add 16 (ci 1)),om 16 55])))))) (.seq (rg [om 4 cz]) (.ret)))) 
def tf27:TFunc:=⟨2,56,[.tmp 4],false,tc27,[]⟩
def ziv (a0:LD) (a1:LY) (x2:Int):Option (LR Int Err) :=
 br (decide (x2 < (a1.length:Int)))
 (bno (qb a1 x2) fun y3 =>
 bno (F58 a0 (Entry.at_ y3)) fun y4 =>
 br (!(Err.isNil y4))
 (wj (some y4))
 (bno (F59 a0 (Entry.at_ y3)) fun y5 =>
 br (!y5)
 (wj (some (Err.no (6:Int))))
 (bno (F60 (Entry.n y3)) fun y6 =>
 br (!y6)
 (wj (some (Err.no (1:Int))))
 (jn (σ:=Bool) (α:=(LR Int Err)) (br (decide ((0:Int) < x2))
 (bno (qb a1 (wi (x2 - (1:Int)))) fun y7 =>
 bno (F61 y7 y3) fun y8 =>
 zD (some (decide ((0:Int)<=y8))))
 (zD (some false))) fun x9 =>
 br x9
 (wj (some (Err.no (7:Int))))
 (nxO (some (wi (x2+(1:Int)))))))))
 (dnO (some x2))
def S27 (a0:LD) (a1:LY):Option Err :=
 bno (F51 a0) fun y1 =>
 br (!(Err.isNil y1))
 (some y1)
 (lp (ziv F58 F59 F60 F61 a0 a1) (0:Int) fun eZ =>
 some Err.nil)
def P27:=S27 P51 P58 P59 P60 P61
def k27:CSpec:=⟨27,[(.st .outl),(.sl .entry)],.err,fun x=>P27 x.1 x.2,false,[]⟩
def r27 {S:Seat} (h:Ok1 S 27 tf27):RtF S [k51,k58,k59,k60,k61] (Rt S k27):=okr h rfl fun x=>by kernel_rfl
def tc73:TCode:=.seq (rg [om 4 (ci 0),om 5 (cb false)]) (.seq (rg [om 6 0,om 7 1,oq 8 (.build [.slice none 0 0,.int .i64 0] [(0,1,7)]),oq 9 (.call false [] 80 [6,8,(.f 61)]),oq 10 (.ext 9 0),oq 11 (.ext 9 1),om 4 10,om 5 11]) (.ret)) 
def tf73:TFunc:=⟨2,12,[.tmp 4,.tmp 5],false,tc73,[]⟩
def S73 (a0:LY) (a1:LI):Option (Int×Bool) :=
 bno (F80_61 a0 (Entry.mk a1 (0:Int))) fun y1 =>
 some (y1.1,y1.2)
def P73:=S73 ziy
def k73:CSpec:=⟨73,[(.sl .entry),(.sl .int)],(.tp [.int,.bool]),fun x=>P73 x.1 x.2,false,[]⟩
def r73 {S:Seat} (h:Ok1 S 73 tf73):RtF S [k80_61] (Rt S k73):=okr h rfl fun x=>by kernel_rfl
end
end Ab
