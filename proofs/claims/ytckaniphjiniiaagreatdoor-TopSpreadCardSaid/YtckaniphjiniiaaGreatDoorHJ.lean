import Derived.Test.YtckaniphjiniiaaGreatDoorH1
set_option linter.all false
noncomputable section
namespace Ab
open Go
section
set_option maxRecDepth 100000
section
variable (F27:LD->LY->(Option Err)) (F71:LD->LY->Edit->(Option (LY×Err))) (F72:LY->(Option LY))
def tc112:TCode:=.seq (rg [oq 3 (.box 0),om 6 cn,om 7 (ci 0),om 8 cz]) (.seq (.seq (rg [om 14 2,oq 15 (Ln 14),oq 16 (Bi .gtr 15 (ci 60))]) (.cond 16 (.seq (rg [oq 17 (.ifc 1 (ci 4)),om 6 cn,om 7 (ci 0),om 8 17]) .ret) .skip)) (.seq (.seq (rg [oq 18 (.load (some 1) 3),om 19 1,oq 20 (Cl 27 [18,19]),om 9 20]) (.seq (rg [om 21 9,oq 22 (.eqn false true 21)]) (.cond 22 (.seq (rg [om 23 9,om 6 cn,om 7 (ci 0),om 8 23]) .ret) .skip))) (.seq (rg [om 24 1,oq 25 (.call true [] 72 [24]),om 1 25]) (.seq (.seq (rg [om 26 2,oq 27 (Ln 26),om 28 (ci 0)]) (.loop ⟨[.row 1 25 .entry,.slot 28 .int],[10,11,12,13,29,30,31,32,33,34,35,36,37,38,39,40,41,44,45],[11],[]⟩ 0 (.seq (rg [oq 29 (Bi .lss 28 27)]) (.seq (.cond 29 .skip (.exit 0)) (.seq (.block 1 (.seq (rg [om 30 28,oq 31 (.ia 3 26 28),oq 32 (.load (some 3) 31),oq 11 (.alloc [.slice none 0 0,.int .i64 0,.bool false]),om 10 30,on (.store 3 11 32)]) (.seq (rg [oq 34 (.load (some 1) 3),om 35 1,oq 36 (.load (some 3) 11),oq 37 (.call true [1001] 71 [34,35,36]),om 33 37,oq 38 (.ext 33 0),oq 39 (.ext 33 1),om 12 38,om 13 39]) (.seq (.seq (rg [om 40 13,oq 41 (.eqn false true 40)]) (.cond 41 (.seq (rg [om 42 10,om 43 13,om 6 cn,om 7 42,om 8 43]) .ret) .skip)) (rg [om 44 12,om 1 44]))))) (rg [oq 45 (Bi .add 28 (ci 1)),om 28 45])))))) (.seq (rg [om 46 1,om 6 46,om 7 (ci 0),om 8 cz]) .ret))))) 
def tf112:TFunc:=⟨3,47,[.tmp 6,.tmp 7,.tmp 8],false,tc112,[]⟩
def zbC (a0:LD) (a2:(List Edit)) (x3:(LY×Int)):Option (LR (LY×Int) (LY×Int×Err)) :=
 br (decide (x3.2<(a2.length:Int)))
 (bno (zu a2 x3.2) fun y4 =>
 bno (F71 a0 x3.1 y4) fun y5 =>
 br (!(Err.isNil y5.2))
 (yk (some (([]:List Entry),x3.2,y5.2)))
 (nxO (some (y5.1,wi (x3.2+(1:Int))))))
 (dnO (some (x3.1,x3.2)))
def S112 (a0:LD) (a1:LY) (a2:(List Edit)):Option (LY×Int×Err) :=
 br (decide ((60:Int)<(a2.length:Int)))
 (some (([]:List Entry),(0:Int),Err.no (4:Int)))
 (bno (F27 a0 a1) fun y1 =>
 br (!(Err.isNil y1))
 (some (([]:List Entry),(0:Int),y1))
 (bno (F72 a1) fun y2 =>
 lp (zbC F71 a0 a2) (y2,(0:Int)) fun x6 =>
 some (x6.1,(0:Int),Err.nil)))
def P112:=S112 P27 P71 P72
def k112:CSpec:=⟨112,[(.st .outl),(.sl .entry),(.sl .edit)],(.tp [(.sl .entry),.int,.err]),fun x=>P112 x.1 x.2.1 x.2.2,false,[]⟩
def r112 {S:Seat} (h:Ok1 S 112 tf112):RtF S [k27,k71,k72] (Rt S k112):=okr h
end
end
section
set_option maxRecDepth 100000
section
variable (F113:LD->LI->LI->(Option (Int×Bool))) (F114:LD->LI->(Option Err)) (F27:LD->LY->(Option Err)) (F45:Dim->Int->Int->(Option (Int×Bool))) (F46:Dim->Int->(Option LI)) (F58:LD->LI->(Option Err)) (F59:LD->LI->(Option Bool))
def tc113:TCode:=.seq (rg [oq 3 (.box 0),om 6 (ci 0),om 7 (cb false)]) (.seq (rg [om 8 (ci 1)]) (.seq (.seq (rg [om 13 1,oq 14 (Ln 13),om 15 (ci 0)]) (.loop ⟨[.slot 8 .int,.slot 15 .int],[9,10,11,12,16,17,18,19,20,21,22,23,24,25,26,27,28,29,30,31,32,33,34,35,36,37,38,39],[],[]⟩ 0 (.seq (rg [oq 16 (Bi .lss 15 14)]) (.seq (.cond 16 .skip (.exit 0)) (.seq (.block 1 (.seq (rg [om 17 15,oq 18 (.ia 1 13 15),oq 19 (Ld 18),om 9 17,om 10 19]) (.seq (.region [oq 21 (.fa 0 3),od 22 (Ld 21) [0],om 23 9,od 24 (.ia 3 22 23) [1,2],od 25 (.load (some 3) 24) [3],om 26 10,om 27 2,om 28 9,od 29 (.ia 1 27 28) [6,7],od 30 (Ld 29) [8],od 31 (Cl 45 [25,26,30]) [4,5,9],od 20 (.mov 31) [10],od 32 (.ext 20 0) [11],od 33 (.ext 20 1) [11],od 11 (.mov 32) [12,10,0,1,2,3,4,5,6,7,8,9,10,11,12],od 12 (.mov 33) [13,14,0,1,2,3,4,5,6,7,8,9,10,11,12,13,14]] [] true) (.seq (.seq (rg [om 34 12,oq 35 (.un .not 34)]) (.cond 35 (.seq (rg [om 6 (ci 0),om 7 (cb false)]) .ret) .skip)) (rg [om 36 8,om 37 11,oq 38 (Bi .mul 36 37),om 8 38]))))) (rg [oq 39 (Bi .add 15 (ci 1)),om 15 39])))))) (.seq (rg [om 40 8,om 6 40,om 7 (cb true)]) .ret))) 
def tf113:TFunc:=⟨3,41,[.tmp 6,.tmp 7],false,tc113,[]⟩
def zkA (a0:LD) (a1:LI) (a2:LI) (x1:(Int×Int)):Option (LR (Int×Int) (Int×Bool)) :=
 br (decide (x1.2<(a1.length:Int)))
 (bno (zu a1 x1.2) fun y2 =>
 bno (zu a0 x1.2) fun y3 =>
 bno (zu a2 x1.2) fun y4 =>
 bno (F45 y3 y2 y4) fun y5 =>
 br (!y5.2)
 (yk (some ((0:Int),false)))
 (nxO (some (wi (x1.1*y5.1),wi (x1.2+(1:Int))))))
 (dnO (some (x1.1,x1.2)))
def S113 (a0:LD) (a1:LI) (a2:LI):Option (Int×Bool) :=
 lp (zkA F45 a0 a1 a2) ((1:Int),(0:Int)) fun x6 =>
 some (x6.1,true)
def P113:=S113 P45
def k113:CSpec:=⟨113,[(.st .outl),(.sl .int),(.sl .int)],(.tp [.int,.bool]),fun x=>P113 x.1 x.2.1 x.2.2,false,[]⟩
def r113 {S:Seat} (h:Ok1 S 113 tf113):RtF S [k45] (Rt S k113):=okr h
def tc111:TCode:=.seq (rg [oq 3 (.box 0),om 6 (ci 0),om 7 cz]) (.seq (.seq (.region [om 13 1,om 14 2,oq 15 (.bslice true 1 [.slice none 0 0] 2 [(0,13),(1,14)]),oq 16 (Ln 15),om 17 (ci 0)] [.int,.int,(.sl .int)] false) (.loop ⟨[.slot 17 .int],[9,10,18,19,20,21,22,23,24,25,27],[],[]⟩ 0 (.seq (rg [oq 18 (Bi .lss 17 16)]) (.seq (.cond 18 .skip (.exit 0)) (.seq (.block 1 (.seq (rg [oq 19 (.ia 1 15 17),oq 20 (Ld 19),om 9 20]) (.seq (rg [oq 21 (.load (some 1) 3),om 22 9,oq 23 (Cl 114 [21,22]),om 10 23]) (.seq (rg [om 24 10,oq 25 (.eqn false true 24)]) (.cond 25 (.seq (rg [om 26 10,om 6 (ci 0),om 7 26]) .ret) .skip))))) (rg [oq 27 (Bi .add 17 (ci 1)),om 17 27])))))) (.seq (rg [oq 29 (.load (some 1) 3),om 30 1,om 31 2,oq 32 (Cl 113 [29,30,31]),om 28 32,oq 33 (.ext 28 0),oq 34 (.ext 28 1),om 11 33,om 12 34]) (.seq (.seq (.regionJ ⟨[.slot 42 .bool],[35,36,37,38,39,40,41],[],[]⟩ [om 35 12,oq 36 (.un .not 35),om 37 36,og 38 (.load (some 1) 3) 37 false [],og 39 (.mov 2) 37 false [],og 40 (Cl 59 [38,39]) 37 false [],og 41 (.un .not 40) 37 false [],oq 42 (.pick 37 (cb true) 41)] [] false) (.cond 42 (.seq (rg [oq 43 (.ifc 1 (ci 3)),om 6 (ci 0),om 7 43]) .ret) .skip)) (.seq (rg [om 44 11,om 6 44,om 7 cz]) .ret)))) 
def tf111:TFunc:=⟨3,45,[.tmp 6,.tmp 7],false,tc111,[]⟩
def wC (a0:LD) (a1:LI) (a2:LI) (x1:Int):Option (LR Int (Int×Err)) :=
 br (decide (x1<(([a1,a2]:List (List Int)).length:Int)))
 (ck (decide (0<=x1∧x1<(([a1,a2]:List (List Int)).length:Int))) <|
 bno ((([a1,a2]:List (List Int)))[(Int.toNat x1)]?) fun y2 =>
 bno (F114 a0 y2) fun y3 =>
 br (!(Err.isNil y3))
 (yk (some ((0:Int),y3)))
 (nxO (some (wi (x1+(1:Int))))))
 (dnO (some x1))
def S111 (a0:LD) (a1:LI) (a2:LI):Option (Int×Err) :=
 lp (wC F114 a0 a1 a2) (0:Int) fun x4 =>
 bno (F113 a0 a1 a2) fun y5 =>
 jn (σ:=Bool) (α:=(Int×Err)) (br (!y5.2)
 (zt (some true))
 (bno (F59 a0 a2) fun y6 =>
 zt (some (!y6)))) fun x7 =>
 br x7
 (some ((0:Int),Err.no (3:Int)))
 (some (y5.1,Err.nil))
def P111:=S111 P113 P114 P59
def k111:CSpec:=⟨111,[(.st .outl),(.sl .int),(.sl .int)],(.tp [.int,.err]),fun x=>P111 x.1 x.2.1 x.2.2,false,[]⟩
def r111 {S:Seat} (h:Ok1 S 111 tf111):RtF S [k113,k114,k59] (Rt S k111):=okr h
def tc127:TCode:=.seq (rg [oq 2 (.box 0),om 4 cn,om 5 cz]) (.seq (.seq (rg [oq 15 (.load (some 1) 2),om 16 1,oq 17 (Cl 114 [15,16]),om 6 17]) (.seq (rg [om 18 6,oq 19 (.eqn false true 18)]) (.cond 19 (.seq (rg [om 20 6,om 4 cn,om 5 20]) .ret) .skip))) (.seq (.region [oq 21 (.bslice true 1 [.slice none 0 0] 1 [(0,cn)]),om 7 21] [(.sl .int)] false) (.seq (.seq (rg [om 22 1,oq 23 (Ln 22),om 24 (ci 0)]) (.loop ⟨[.slot 7 (.sl (.sl .int)),.slot 24 .int],[8,9,10,12,14,25,26,27,28,29,30,31,32,33,34,35,36,37,38,39,40,41,42,43,44,45,46,47,48,49,50,51,52,53,54,55,56,57,58],[21,49,51,53,54],[21,54]⟩ 0 (.seq (rg [oq 25 (Bi .lss 24 23)]) (.seq (.cond 25 .skip (.exit 0)) (.seq (.block 1 (.seq (rg [om 26 24,oq 27 (.ia 1 22 24),oq 28 (Ld 27),om 8 26,om 9 28]) (.seq (rg [om 10 cn]) (.seq (.seq (rg [om 29 7,oq 30 (Ln 29),om 31 (ci 0)]) (.loop ⟨[.row 10 54 (.sl .int),.slot 31 .int],[12,14,32,33,34,35,36,37,38,39,40,41,42,43,44,45,46,47,48,49,50,51,52,53,54,55,56],[49,51,53],[]⟩ 2 (.seq (rg [oq 32 (Bi .lss 31 30)]) (.seq (.cond 32 .skip (.exit 2)) (.seq (.block 3 (.seq (rg [oq 33 (.ia 1 29 31),oq 34 (Ld 33),om 12 34]) (.seq (rg [oq 35 (.fa 0 2),oq 36 (Ld 35),om 37 8,oq 38 (.ia 3 36 37),oq 39 (.load (some 3) 38),om 40 9,oq 41 (.call true [] 46 [39,40]),oq 42 (Ln 41),om 43 (ci 0)]) (.loop ⟨[.row 10 54 (.sl .int),.slot 43 .int],[14,44,45,46,47,48,49,50,51,52,53,54,55],[49,51,53],[]⟩ 4 (.seq (rg [oq 44 (Bi .lss 43 42)]) (.seq (.cond 44 .skip (.exit 4)) (.seq (.block 5 (.seq (rg [oq 45 (.ia 1 41 43),oq 46 (Ld 45),om 14 46]) (.region [om 47 10,om 48 12,oq 49 (.app 1 cn 48),om 50 14,oq 51 (.bslice false 1 [.int .i64 0] 1 [(0,50)]),oq 52 (.app 1 49 51),oq 53 (.bslice true 1 [.slice none 0 0] 1 [(0,52)]),oq 54 (.app 1 47 53),om 10 54] [.int,.int,.int,.int,.int,.int,(.sl .int),(.sl .int)] false))) (rg [oq 55 (Bi .add 43 (ci 1)),om 43 55])))))))) (rg [oq 56 (Bi .add 31 (ci 1)),om 31 56])))))) (rg [om 57 10,om 7 57]))))) (rg [oq 58 (Bi .add 24 (ci 1)),om 24 58])))))) (.seq (rg [om 59 7,om 4 59,om 5 cz]) .ret)))) 
def tf127:TFunc:=⟨2,60,[.tmp 4,.tmp 5],false,tc127,[]⟩
def zfm (y5:LI) (y7:LI) (x8:((List LI)×Int)):Option (LR ((List LI)×Int) (LR ((List LI)×Int) (LR ((List LI)×Int) ((List LI)×Err)))) :=
 br (decide (x8.2<(y7.length:Int)))
 (bno (zu y7 x8.2) fun y9 =>
 ck (decide (List.length y5<=zC)) <|
 ck (decide (List.length y5+List.length ([y9]:List Int)<=zC)) <|
 ck (decide (List.length x8.1+List.length ([y5++([y9]:List Int)]:List (List Int))<=zC)) <|
 nxO (some (x8.1++([y5++([y9]:List Int)]:List (List Int)),wi (x8.2+(1:Int)))))
 (dnO (some (x8.1,x8.2)))
def zfl (a0:LD) (x2:((List LI)×Int)) (y3:Int) (x4:((List LI)×Int)):Option (LR ((List LI)×Int) (LR ((List LI)×Int) ((List LI)×Err))) :=
 br (decide (x4.2<(x2.1.length:Int)))
 (bno (zu x2.1 x4.2) fun y5 =>
 bno (zu a0 x2.2) fun y6 =>
 bno (F46 y6 y3) fun y7 =>
 lp (zfm y5 y7) (x4.1,(0:Int)) fun bn =>
 nxO (some (bn.1,wi (x4.2+(1:Int)))))
 (dnO (some (x4.1,x4.2)))
def zfk (a0:LD) (a1:LI) (x2:((List LI)×Int)):Option (LR ((List LI)×Int) ((List LI)×Err)) :=
 br (decide (x2.2<(a1.length:Int)))
 (bno (zu a1 x2.2) fun y3 =>
 lp (zfl F46 a0 x2 y3) (([]:List (List Int)),(0:Int)) fun bY =>
 nxO (some (bY.1,wi (x2.2+(1:Int)))))
 (dnO (some (x2.1,x2.2)))
def S127 (a0:LD) (a1:LI):Option ((List LI)×Err) :=
 bno (F114 a0 a1) fun y1 =>
 br (!(Err.isNil y1))
 (some (([]:List (List Int)),y1))
 (lp (zfk F46 a0 a1) (([([]:List Int)]:List (List Int)),(0:Int)) fun bC =>
 some (bC.1,Err.nil))
def P127:=S127 P114 P46
def k127:CSpec:=⟨127,[(.st .outl),(.sl .int)],(.tp [(.sl (.sl .int)),.err]),fun x=>P127 x.1 x.2,false,[]⟩
def r127 {S:Seat} (h:Ok1 S 127 tf127):RtF S [k114,k46] (Rt S k127):=okr h
end
end
end Ab
