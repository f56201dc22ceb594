import Derived.Test.YtchidgkpkhloeaaGreatDoorHI
import Derived.Test.YtchidgkpkhloeaaGreatDoorH3
set_option linter.unusedVariables false
set_option linter.unusedSimpArgs false
noncomputable section
namespace Ab
open Go
section
set_option maxRecDepth 100000
section
variable (F100:Dim->Int->(Option LI)) (F102:Dim->Int->(Option Bool)) (F106:LD->(Option Int)) (F130:LD->LI->(Option Bool)) (F134:LY->LI->(Option Cell)) (F140:LD->LI->(Option Int)) (F142:LD->Int->(Option LI)) (F146:Cell->Cell->Int->(Option Cell)) (F243:LN->(Option (List ByteArray))) (F247:ByteArray->(Option (LN×Int×Int))) (F250:LI->Int->Int->(Option LI)) (F292:LN->Int->(List ByteArray)->LC->(Option Cell)) (F321:Dim->(Option ((List LI)×Int×Int))) (F325:LD->(List (List LI))->LI->(Option LI)) (F326:LD->(Option (List (List LI)))) (F337:LD->LI->(Option Int)) (F338:LD->(Option (List LI))) (F347:LI->Int->(Option LI)) (F354:LD->LY->LI->LC->(Option Cell)) (F96:Dim->ByteArray->(Option Int))
def tc337:TCode:=.seq (rg [oq 2 (.box 0),om 4 (ci 0)]) (.seq (rg [om 5 (ci (-1))]) (.seq (.seq (rg [om 6 (ci 0)]) (.loop ⟨[.slot 5 .int,.slot 6 .int],[7,8,9,10,11,12,13,14,15,16,17,18,19,20,21,22,23,24,25,26,27,28,29,30,31,32,33,34,35,36,37,38,39,40,41,42,43,44,45],[],[]⟩ 0 (.seq (.seq (rg [om 8 6,om 9 1,oq 10 (.len false 9),oq 11 (.bin .int .lss 8 10)]) (.cond 11 (.skip) (.exit 0))) (.seq (.block 1 (.seq (.region [oq 14 (.fa 0 2),od 15 (.load none 14) [0],om 16 6,od 17 (.ia 3 15 16) [1,2],od 18 (.load (some 3) 17) [3],om 19 1,om 20 6,od 21 (.ia 1 19 20) [5,6],od 22 (.load none 21) [7],od 23 (.call false [] 102 [18,22]) [4,8],od 7 (.mov 23) [9,9,0,1,2,3,4,5,6,7,8,9]] [] true) (.seq (.regionJ ⟨[.slot 44 .bool],[24,25,26,27,28,29,30,31,32,33,34,35,36,37,38,39,40,41,42,43],[],[]⟩ [om 24 7,od 25 (.un .not 24) [0],od 26 (.mov 25) [1],og 27 (.mov 5) 26 true [2],og 28 (.bin .int .lss 27 (ci 0)) 26 true [3,2],og 29 (.mov 28) 26 true [4,2,2],og 30 (.fa 0 2) 29 false [5],og 31 (.load none 30) 29 false [6,5],og 32 (.mov 6) 29 false [5],og 33 (.ia 3 31 32) 29 false [7,8,5],og 34 (.fa 1 33) 29 false [9,5],og 35 (.load none 34) 29 false [10,5],og 36 (.fa 0 2) 29 false [5],og 37 (.load none 36) 29 false [12,5],og 38 (.mov 5) 29 false [5],og 39 (.ia 3 37 38) 29 false [13,14,5],og 40 (.fa 1 39) 29 false [15,5],og 41 (.load none 40) 29 false [16,5],og 42 (.bin .int .gtr 35 41) 29 false [11,17,5],og 43 (.pick 29 (cb true) 42) 26 true [5,18,2],od 44 (.pick 26 43 (cb false)) [2,19]] [] true) (.condJ ⟨[.slot 5 .int],[45],[],[]⟩ 44 (rg [om 45 6,om 5 45]) (.skip))))) (rg [om 12 6,oq 13 (.bin .int .add 12 (ci 1)),om 6 13]))))) (.seq (rg [om 46 5,om 4 46]) (.ret)))) 
def tf337:TFunc:=⟨2,47,[.tmp 4],false,tc337,[]⟩
def zfB (a0:LD) (a1:LI) (x1:(Int×Int)):Option (LR (Int×Int) Int) :=
 br (decide (x1.2 < ((List.length a1:Nat):Int)))
 (bno (zm a0 x1.2) fun y2 =>
 bno (zm a1 x1.2) fun y3 =>
 bno (F102 y2 y3) fun y4 =>
 jn (σ:=Bool) (α:=(LR (Int×Int) Int)) (br (!y4)
 (br (decide (x1.1 < (0:Int)))
 (zw (some true))
 (bno (zm a0 x1.2) fun y5 =>
 bno (zm a0 x1.1) fun y6 =>
 zw (some (decide ((Dim.solve y6) < (Dim.solve y5))))))
 (zw (some false))) fun x7 =>
 jn (σ:=Int) (α:=(LR (Int×Int) Int)) (br x7
 (zw (some x1.2))
 (zw (some x1.1))) fun x8 =>
 nxO (some (x8,wi (x1.2+(1:Int)))))
 (dnO (some (x1.1,x1.2)))
def S337 (a0:LD) (a1:LI):Option Int :=
 lp (zfB F102 a0 a1) ((-1:Int),(0:Int)) fun x9 =>
 some x9.1
def P337:=S337 P102
def k337:CSpec:=⟨337,[(.st .outl),(.sl .int)],.int,fun x=>P337 x.1 x.2,false,[]⟩
theorem r337 {S:Seat} (h:Ok1 S 337 tf337):RtF S [k102] (Rt S k337):=okr h rfl fun x=>by kernel_rfl
def tc325:TCode:=.seq (rg [oq 3 (.box 0),om 6 cn]) (.seq (rg [oq 11 (.load (some 1) 3),om 12 2,oq 13 (.call false [] 337 [11,12]),om 7 13]) (.seq (.seq (rg [om 14 7,oq 15 (.bin .int .lss 14 (ci 0))]) (.cond 15 (.seq (rg [om 6 cn]) (.ret)) (.skip))) (.seq (rg [om 8 cn]) (.seq (.region [om 16 1,om 17 7,od 18 (.ia 1 16 17) [0,1],od 19 (.load none 18) [2],om 20 2,om 21 7,od 22 (.ia 1 20 21) [4,5],od 23 (.load none 22) [6],od 24 (.ia 1 19 23) [3,7],od 25 (.load none 24) [8],od 9 (.mov 25) [9,0,1,2,3,4,5,6,7,8,9]] [] true) (.seq (.seq (rg [om 10 (ci 0)]) (.loop ⟨[.slot 8 (.sl .int),.slot 10 .int],[26,27,28,29,30,31,32,33,34,35,36,37,38,39,40,41,42],[],[]⟩ 0 (.seq (.seq (rg [om 26 10,om 27 9,oq 28 (.len false 27),oq 29 (.bin .int .lss 26 28)]) (.cond 29 (.skip) (.exit 0))) (.seq (.block 1 (.region [om 32 8,oq 33 (.load (some 1) 3),om 34 2,om 35 7,om 36 9,om 37 10,od 38 (.ia 1 36 37) [4,5],od 39 (.load none 38) [6],od 40 (.call true [] 250 [34,35,39]) [2,3,7],od 41 (.call false [] 140 [33,40]) [1,8,8],od 42 (.call true [] 347 [32,41]) [0,9,9],od 8 (.mov 42) [10,10,0,1,2,3,4,5,6,7,8,9,10]] [] true)) (rg [om 30 10,oq 31 (.bin .int .add 30 (ci 1)),om 10 31]))))) (.seq (rg [om 43 8,om 6 43]) (.ret))))))) 
def tf325:TFunc:=⟨3,44,[.tmp 6],false,tc325,[]⟩
def zfJ (a0:LD) (a2:LI) (y1:Int) (y4:LI) (x5:(LI×Int)):Option (LR (LI×Int) LI) :=
 br (decide (x5.2 < ((List.length y4:Nat):Int)))
 (bno (zm y4 x5.2) fun y6 =>
 bno (F250 a2 y1 y6) fun y7 =>
 bno (F140 a0 y7) fun y8 =>
 bno (F347 x5.1 y8) fun y9 =>
 nxO (some (y9,wi (x5.2+(1:Int)))))
 (dnO (some (x5.1,x5.2)))
def S325 (a0:LD) (a1:(List (List LI))) (a2:LI):Option LI :=
 bno (F337 a0 a2) fun y1 =>
 br (decide (y1 < (0:Int)))
 (some ([]:List Int))
 (bno (zm a1 y1) fun y2 =>
 bno (zm a2 y1) fun y3 =>
 bno (zm y2 y3) fun y4 =>
 lp (zfJ F140 F250 F347 a0 a2 y1 y4) (([]:List Int),(0:Int)) fun x10 =>
 some x10.1)
def P325:=S325 zjV P250 P337 zeD
def k325:CSpec:=⟨325,[(.st .outl),(.sl (.sl (.sl .int))),(.sl .int)],(.sl .int),fun x=>P325 x.1 x.2.1 x.2.2,false,[]⟩
theorem r325 {S:Seat} (h:Ok1 S 325 tf325):RtF S [k140,k250,k337,k347] (Rt S k325):=okr h rfl fun x=>by kernel_rfl
def tc326:TCode:=.seq (rg [oq 1 (.box 0),om 2 cn]) (.seq (rg [om 3 cn]) (.seq (.seq (rg [om 4 (ci 0)]) (.loop ⟨[.row 3 28 (.sl (.sl .int)),.slot 4 .int],[5,6,7,8,9,10,11,12,13,14,15,16,17,18,19,20,21,22,23,24,25,26,27,28],[27],[]⟩ 0 (.seq (.seq (rg [om 8 4,oq 9 (.fa 0 1),oq 10 (.load none 9),oq 11 (.len false 10),oq 12 (.bin .int .lss 8 11)]) (.cond 12 (.skip) (.exit 0))) (.seq (.block 1 (.seq (rg [oq 16 (.fa 0 1),oq 17 (.load none 16),om 18 4,oq 19 (.ia 3 17 18),oq 20 (.load (some 3) 19),oq 21 (.call true [] 321 [20]),om 15 21,oq 22 (.ext 15 0),oq 23 (.ext 15 1),oq 24 (.ext 15 2),om 5 22,om 6 23,om 7 24]) (.region [om 25 3,om 26 5,oq 27 (.bslice true 1 [.slice none 0 0] 1 [(0,26)]),oq 28 (.app 1 25 27),om 3 28] [.int,.int,(.sl (.sl .int)),(.sl (.sl .int))] false))) (rg [om 13 4,oq 14 (.bin .int .add 13 (ci 1)),om 4 14]))))) (.seq (rg [om 29 3,om 2 29]) (.ret)))) 
def tf326:TFunc:=⟨1,30,[.tmp 2],false,tc326,[]⟩
def zfI (a0:LD) (x1:((List (List LI))×Int)):Option (LR ((List (List LI))×Int) (List (List LI))) :=
 br (decide (x1.2 < ((List.length a0:Nat):Int)))
 (bno (zm a0 x1.2) fun y2 =>
 bno (F321 y2) fun y3 =>
 ck (decide (List.length x1.1+List.length ([y3.1]:List (List (List Int)))<=zA)) <|
 nxO (some (x1.1++([y3.1]:List (List (List Int))),wi (x1.2+(1:Int)))))
 (dnO (some (x1.1,x1.2)))
def S326 (a0:LD):Option (List (List LI)) :=
 lp (zfI F321 a0) (([]:List (List (List Int))),(0:Int)) fun x4 =>
 some x4.1
def P326:=S326 P321
def k326:CSpec:=⟨326,[(.st .outl)],(.sl (.sl (.sl .int))),fun x=>P326 x,false,[]⟩
theorem r326 {S:Seat} (h:Ok1 S 326 tf326):RtF S [k321] (Rt S k326):=okr h rfl fun x=>by kernel_rfl
def tc338:TCode:=.seq (rg [oq 1 (.box 0),om 2 cn]) (.seq (rg [oq 8 (.load (some 1) 1),oq 9 (.call true [] 326 [8]),om 3 9]) (.seq (rg [om 4 cn]) (.seq (rg [oq 10 (.load (some 1) 1),oq 11 (.call false [] 106 [10]),om 5 11]) (.seq (.seq (rg [om 6 (ci 0)]) (.loop ⟨[.row 4 26 (.sl .int),.slot 6 .int],[7,12,13,14,15,16,17,18,19,20,21,22,23,24,25,26],[25],[]⟩ 0 (.seq (.seq (rg [om 12 6,om 13 5,oq 14 (.bin .int .lss 12 13)]) (.cond 14 (.skip) (.exit 0))) (.seq (.block 1 (.seq (.region [oq 17 (.load (some 1) 1),om 18 3,oq 19 (.load (some 1) 1),om 20 6,od 21 (.call true [] 142 [19,20]) [2,3],od 22 (.call true [] 325 [17,18,21]) [0,1,4,4],od 7 (.mov 22) [5,5,0,1,2,3,4,5]] [] true) (.region [om 23 4,om 24 7,oq 25 (.bslice true 1 [.slice none 0 0] 1 [(0,24)]),oq 26 (.app 1 23 25),om 4 26] [.int,.int,(.sl .int),(.sl .int)] false))) (rg [om 15 6,oq 16 (.bin .int .add 15 (ci 1)),om 6 16]))))) (.seq (rg [om 27 4,om 2 27]) (.ret)))))) 
def tf338:TFunc:=⟨1,28,[.tmp 2],false,tc338,[]⟩
def zfA (a0:LD) (y1:(List (List LI))) (y2:Int) (x3:((List LI)×Int)):Option (LR ((List LI)×Int) (List LI)) :=
 br (decide (x3.2 < y2))
 (bno (F142 a0 x3.2) fun y4 =>
 bno (F325 a0 y1 y4) fun y5 =>
 ck (decide (List.length x3.1+List.length ([y5]:List (List Int))<=zA)) <|
 nxO (some (x3.1++([y5]:List (List Int)),wi (x3.2+(1:Int)))))
 (dnO (some (x3.1,x3.2)))
def S338 (a0:LD):Option (List LI) :=
 bno (F326 a0) fun y1 =>
 bno (F106 a0) fun y2 =>
 lp (zfA F142 F325 a0 y1 y2) (([]:List (List Int)),(0:Int)) fun x6 =>
 some x6.1
def P338:=S338 P106 P142 P325 P326
def k338:CSpec:=⟨338,[(.st .outl)],(.sl (.sl .int)),fun x=>P338 x,false,[]⟩
theorem r338 {S:Seat} (h:Ok1 S 338 tf338):RtF S [k106,k142,k325,k326] (Rt S k338):=okr h rfl fun x=>by kernel_rfl
def tc327:TCode:=.seq (rg [oq 2 (.box 0),om 4 cn]) (.seq (rg [oq 13 (.load (some 1) 2),oq 14 (.call true [] 338 [13]),om 5 14]) (.seq (.region [om 15 5,oq 16 (.len false 15),oq 17 (.mksl 1 [.bool false] 16 16),om 6 17] [.int,.int,.bool] false) (.seq (rg [om 18 6,oq 19 (.load (some 1) 2),om 20 1,oq 21 (.call false [] 140 [19,20]),oq 22 (.ia 1 18 21),on (.store 1 22 (cb true))]) (.seq (.seq (rg [om 7 (cb true)]) (.loop ⟨[.slot 7 .bool,.rowH 17 .bool],[8,9,23,24,25,26,27,28,29,30,31,32,33,34,35,36,37,38,39,40,41,42,43,44,45,46,47,48,49,50,51,52,53,54,55,56,57,58,59,60,61,62,63,64],[],[]⟩ 0 (.seq (.seq (rg [om 23 7]) (.cond 23 (.skip) (.exit 0))) (.block 1 (.seq (rg [om 7 (cb false)]) (.seq (rg [om 8 (ci 0)]) (.loop ⟨[.slot 7 .bool,.slot 8 .int,.rowH 17 .bool],[9,24,25,26,27,28,29,30,31,32,33,34,35,36,37,38,39,40,41,42,43,44,45,46,47,48,49,50,51,52,53,54,55,56,57,58,59,60,61,62,63,64],[],[]⟩ 2 (.seq (.seq (rg [om 24 8,om 25 5,oq 26 (.len false 25),oq 27 (.bin .int .lss 24 26)]) (.cond 27 (.skip) (.exit 2))) (.seq (.block 3 (.seq (rg [om 9 (ci 0)]) (.loop ⟨[.slot 7 .bool,.slot 9 .int,.rowH 17 .bool],[30,31,32,33,34,35,36,37,38,39,40,41,42,43,44,45,46,47,48,49,50,51,52,53,54,55,56,57,58,59,60,61,62,63,64],[],[]⟩ 4 (.seq (.seq (.regionJ ⟨[.slot 42 .bool],[30,31,32,33,34,35,36,37,38,39,40,41],[],[]⟩ [om 30 9,om 31 5,om 32 8,oq 33 (.ia 1 31 32),oq 34 (.load none 33),oq 35 (.len false 34),oq 36 (.bin .int .lss 30 35),om 37 36,og 38 (.mov 6) 37 true [],og 39 (.mov 8) 37 true [],og 40 (.ia 1 38 39) 37 true [],og 41 (.load none 40) 37 true [],oq 42 (.pick 37 41 (cb false))] [] false) (.cond 42 (.skip) (.exit 4))) (.seq (.block 5 (.seq (rg [om 45 6,om 46 5,om 47 8,oq 48 (.ia 1 46 47),oq 49 (.load none 48),om 50 9,oq 51 (.ia 1 49 50),oq 52 (.load none 51),oq 53 (.ia 1 45 52),oq 54 (.load none 53),oq 55 (.un .not 54)]) (.condJ ⟨[.slot 7 .bool,.rowH 17 .bool],[56,57,58,59,60,61,62,63,64],[],[]⟩ 55 (.seq (rg [om 56 6,om 57 5,om 58 8,oq 59 (.ia 1 57 58),oq 60 (.load none 59),om 61 9,oq 62 (.ia 1 60 61),oq 63 (.load none 62),oq 64 (.ia 1 56 63),on (.store 1 64 (cb true))]) (rg [om 7 (cb true)])) (.skip)))) (rg [om 43 9,oq 44 (.bin .int .add 43 (ci 1)),om 9 44])))))) (rg [om 28 8,oq 29 (.bin .int .add 28 (ci 1)),om 8 29])))))))))) (.seq (rg [om 10 cn]) (.seq (.seq (rg [om 11 (ci 0)]) (.loop ⟨[.row 10 86 .int,.slot 11 .int],[12,65,66,67,68,69,70,71,72,73,74,75,76,77,78,79,80,81,82,83,84,85,86],[85],[]⟩ 6 (.seq (.seq (rg [om 65 11,om 66 6,oq 67 (.len false 66),oq 68 (.bin .int .lss 65 67)]) (.cond 68 (.skip) (.exit 6))) (.seq (.block 7 (.seq (.region [oq 71 (.load (some 1) 2),oq 72 (.load (some 1) 2),om 73 11,od 74 (.call true [] 142 [72,73]) [1,2],od 75 (.call false [] 130 [71,74]) [0,3,3],od 12 (.mov 75) [4,4,0,1,2,3,4]] [] true) (.seq (.regionJ ⟨[.slot 82 .bool],[76,77,78,79,80,81],[],[]⟩ [om 76 6,om 77 11,oq 78 (.ia 1 76 77),oq 79 (.load none 78),om 80 79,og 81 (.mov 12) 80 true [],oq 82 (.pick 80 81 (cb false))] [] false) (.condJ ⟨[.row 10 86 .int],[83,84,85,86],[85],[]⟩ 82 (rg [om 83 10,om 84 11,oq 85 (.bslice false 1 [.int .i64 0] 1 [(0,84)]),oq 86 (.app 1 83 85),om 10 86]) (.skip))))) (rg [om 69 11,oq 70 (.bin .int .add 69 (ci 1)),om 11 70]))))) (.seq (rg [om 87 10,om 4 87]) (.ret)))))))) 
def tf327:TFunc:=⟨2,88,[.tmp 4],false,tc327,[]⟩
def zaV (y1:(List LI)) (x5:(Bool×Int×(List Bool))) (x6:(Bool×Int×(List Bool))):Option (LR (Bool×Int×(List Bool)) (LR (Bool×Int×(List Bool)) (LR (Bool×(List Bool)) LI))) :=
 jn (σ:=Bool) (α:=(LR (Bool×Int×(List Bool)) (LR (Bool×Int×(List Bool)) (LR (Bool×(List Bool)) (List Int))))) (bno (zm y1 x5.2.1) fun y7 =>
 br (decide (x6.2.1 < ((List.length y7:Nat):Int)))
 (ck (decide (0<=x5.2.1∧x5.2.1 < ((List.length x6.2.2:Nat):Int))) <|
 bno ((x6.2.2)[(Int.toNat x5.2.1)]?) fun y8 =>
 zw (some y8))
 (zw (some false))) fun x9 =>
 br x9
 (bno (zm y1 x5.2.1) fun y10 =>
 bno (zm y10 x6.2.1) fun y11 =>
 ck (decide (0<=y11∧y11 < ((List.length x6.2.2:Nat):Int))) <|
 bno ((x6.2.2)[(Int.toNat y11)]?) fun y12 =>
 jn (σ:=(Bool×(List Bool))) (α:=(LR (Bool×Int×(List Bool)) (LR (Bool×Int×(List Bool)) (LR (Bool×(List Bool)) (List Int))))) (br (!y12)
 (bno (zm y1 x5.2.1) fun y13 =>
 bno (zm y13 x6.2.1) fun y14 =>
 ck (decide (0<=y14∧y14 < ((List.length x6.2.2:Nat):Int))) <|
 bno ((x6.2.2)[(Int.toNat y14)]?) fun y15 =>
 zw (some (true,List.set x6.2.2 (Int.toNat y14) true)))
 (zw (some (x6.1,x6.2.2)))) fun x16 =>
 nxO (some (x16.1,wi (x6.2.1+(1:Int)),x16.2)))
 (dnO (some (x6.1,x6.2.1,x6.2.2)))
def zfH (y1:(List LI)) (x5:(Bool×Int×(List Bool))):Option (LR (Bool×Int×(List Bool)) (LR (Bool×(List Bool)) LI)) :=
 br (decide (x5.2.1 < ((List.length y1:Nat):Int)))
 (lp (zaV y1 x5) (x5.1,(0:Int),x5.2.2) fun x17 =>
 nxO (some (x17.1,wi (x5.2.1+(1:Int)),x17.2.2)))
 (dnO (some (x5.1,x5.2.1,x5.2.2)))
def zfG (y1:(List LI)) (x4:(Bool×(List Bool))):Option (LR (Bool×(List Bool)) LI) :=
 br x4.1
 (lp (zfH y1) (false,(0:Int),x4.2) fun x18 =>
 nxO (some (x18.1,x18.2.2)))
 (dnO (some (x4.1,x4.2)))
def zfF (a0:LD) (x19:(Bool×(List Bool))) (x20:(LI×Int)):Option (LR (LI×Int) LI) :=
 br (decide (x20.2 < ((List.length x19.2:Nat):Int)))
 (bno (F142 a0 x20.2) fun y21 =>
 bno (F130 a0 y21) fun y22 =>
 jn (σ:=Bool) (α:=(LR ((List Int)×Int) (List Int))) (ck (decide (0<=x20.2∧x20.2 < ((List.length x19.2:Nat):Int))) <|
 bno ((x19.2)[(Int.toNat x20.2)]?) fun y23 =>
 br y23
 (zw (some y22))
 (zw (some false))) fun x24 =>
 jn (σ:=(List Int)) (α:=(LR ((List Int)×Int) (List Int))) (br x24
 (ck (decide (List.length x20.1+List.length ([x20.2]:List Int)<=zA)) <|
 zw (some (x20.1++([x20.2]:List Int))))
 (zw (some x20.1))) fun x25 =>
 nxO (some (x25,wi (x20.2+(1:Int)))))
 (dnO (some (x20.1,x20.2)))
def S327 (a0:LD) (a1:LI):Option LI :=
 bno (F338 a0) fun y1 =>
 ck (decide (0<=((List.length y1:Nat):Int)∧((List.length y1:Nat):Int)<=((List.length y1:Nat):Int)∧((List.length y1:Nat):Int)<=zA)) <|
 bno (F140 a0 a1) fun y2 =>
 ck (decide (0<=y2∧y2 < ((List.length (List.replicate (Int.toNat ((List.length y1:Nat):Int)) false):Nat):Int))) <|
 bno ((List.replicate (Int.toNat ((List.length y1:Nat):Int)) false)[(Int.toNat y2)]?) fun y3 =>
 lp (zfG y1) (true,List.set (List.replicate (Int.toNat ((List.length y1:Nat):Int)) false) (Int.toNat y2) true) fun x19 =>
 lp (zfF F130 F142 a0 x19) (([]:List Int),(0:Int)) fun x26 =>
 some x26.1
def P327:=S327 P130 zjV P142 P338
def k327:CSpec:=⟨327,[(.st .outl),(.sl .int)],(.sl .int),fun x=>P327 x.1 x.2,false,[]⟩
theorem r327 {S:Seat} (h:Ok1 S 327 tf327):RtF S [k130,k140,k142,k338] (Rt S k327):=okr h rfl fun x=>by kernel_rfl
def tc329:TCode:=.seq (rg [oq 2 (.box 0),om 4 cn]) (.seq (rg [oq 13 (.load (some 1) 2),oq 14 (.call true [] 338 [13]),om 5 14]) (.seq (.region [om 15 5,oq 16 (.len false 15),oq 17 (.mksl 1 [.bool false] 16 16),om 6 17] [.int,.int,.bool] false) (.seq (.seq (rg [om 7 (ci 0)]) (.loop ⟨[.slot 7 .int,.rowH 17 .bool],[18,19,20,21,22,23,24,25,26,27,28,29],[],[]⟩ 0 (.seq (.seq (rg [om 18 7,om 19 1,oq 20 (.len false 19),oq 21 (.bin .int .lss 18 20)]) (.cond 21 (.skip) (.exit 0))) (.seq (.block 1 (rg [om 24 6,om 25 1,om 26 7,oq 27 (.ia 1 25 26),oq 28 (.load none 27),oq 29 (.ia 1 24 28),on (.store 1 29 (cb true))])) (rg [om 22 7,oq 23 (.bin .int .add 22 (ci 1)),om 7 23]))))) (.seq (.seq (rg [om 8 (cb true)]) (.loop ⟨[.slot 8 .bool,.rowH 17 .bool],[9,10,30,31,32,33,34,35,36,37,38,39,40,41,42,43,44,45,46,47,48,49,50,51,52,53,54,55,56,57,58,59,60,61,62,63,64,65],[],[]⟩ 2 (.seq (.seq (rg [om 30 8]) (.cond 30 (.skip) (.exit 2))) (.block 3 (.seq (rg [om 8 (cb false)]) (.seq (rg [om 9 (ci 0)]) (.loop ⟨[.slot 8 .bool,.slot 9 .int,.rowH 17 .bool],[10,31,32,33,34,35,36,37,38,39,40,41,42,43,44,45,46,47,48,49,50,51,52,53,54,55,56,57,58,59,60,61,62,63,64,65],[],[]⟩ 4 (.seq (.seq (rg [om 31 9,om 32 5,oq 33 (.len false 32),oq 34 (.bin .int .lss 31 33)]) (.cond 34 (.skip) (.exit 4))) (.seq (.block 5 (.seq (rg [om 10 (ci 0)]) (.loop ⟨[.slot 8 .bool,.slot 10 .int,.rowH 17 .bool],[37,38,39,40,41,42,43,44,45,46,47,48,49,50,51,52,53,54,55,56,57,58,59,60,61,62,63,64,65],[],[]⟩ 6 (.seq (.seq (.regionJ ⟨[.slot 50 .bool],[37,38,39,40,41,42,43,44,45,46,47,48,49],[],[]⟩ [om 37 10,om 38 5,om 39 9,oq 40 (.ia 1 38 39),oq 41 (.load none 40),oq 42 (.len false 41),oq 43 (.bin .int .lss 37 42),om 44 43,og 45 (.mov 6) 44 true [],og 46 (.mov 9) 44 true [],og 47 (.ia 1 45 46) 44 true [],og 48 (.load none 47) 44 true [],og 49 (.un .not 48) 44 true [],oq 50 (.pick 44 49 (cb false))] [] false) (.cond 50 (.skip) (.exit 6))) (.seq (.block 7 (.seq (rg [om 53 6,om 54 5,om 55 9,oq 56 (.ia 1 54 55),oq 57 (.load none 56),om 58 10,oq 59 (.ia 1 57 58),oq 60 (.load none 59),oq 61 (.ia 1 53 60),oq 62 (.load none 61)]) (.condJ ⟨[.slot 8 .bool,.rowH 17 .bool],[63,64,65],[],[]⟩ 62 (.seq (rg [om 63 6,om 64 9,oq 65 (.ia 1 63 64),on (.store 1 65 (cb true))]) (rg [om 8 (cb true)])) (.skip)))) (rg [om 51 10,oq 52 (.bin .int .add 51 (ci 1)),om 10 52])))))) (rg [om 35 9,oq 36 (.bin .int .add 35 (ci 1)),om 9 36])))))))))) (.seq (rg [om 11 cn]) (.seq (.seq (rg [om 12 (ci 0)]) (.loop ⟨[.row 11 79 .int,.slot 12 .int],[66,67,68,69,70,71,72,73,74,75,76,77,78,79],[78],[]⟩ 8 (.seq (.seq (rg [om 66 12,om 67 6,oq 68 (.len false 67),oq 69 (.bin .int .lss 66 68)]) (.cond 69 (.skip) (.exit 8))) (.seq (.block 9 (.seq (rg [om 72 6,om 73 12,oq 74 (.ia 1 72 73),oq 75 (.load none 74)]) (.condJ ⟨[.row 11 79 .int],[76,77,78,79],[78],[]⟩ 75 (rg [om 76 11,om 77 12,oq 78 (.bslice false 1 [.int .i64 0] 1 [(0,77)]),oq 79 (.app 1 76 78),om 11 79]) (.skip)))) (rg [om 70 12,oq 71 (.bin .int .add 70 (ci 1)),om 12 71]))))) (.seq (rg [om 80 11,om 4 80]) (.ret)))))))) 
def tf329:TFunc:=⟨2,81,[.tmp 4],false,tc329,[]⟩
def zdL (a1:LI) (x2:(Int×(List Bool))):Option (LR (Int×(List Bool)) LI) :=
 br (decide (x2.1 < ((List.length a1:Nat):Int)))
 (bno (zm a1 x2.1) fun y3 =>
 ck (decide (0<=y3∧y3 < ((List.length x2.2:Nat):Int))) <|
 bno ((x2.2)[(Int.toNat y3)]?) fun y4 =>
 nxO (some (wi (x2.1+(1:Int)),List.set x2.2 (Int.toNat y3) true)))
 (dnO (some (x2.1,x2.2)))
def zaU (y1:(List LI)) (x7:(Bool×Int×(List Bool))) (x8:(Bool×Int×(List Bool))):Option (LR (Bool×Int×(List Bool)) (LR (Bool×Int×(List Bool)) (LR (Bool×(List Bool)) LI))) :=
 jn (σ:=Bool) (α:=(LR (Bool×Int×(List Bool)) (LR (Bool×Int×(List Bool)) (LR (Bool×(List Bool)) (List Int))))) (bno (zm y1 x7.2.1) fun y9 =>
 br (decide (x8.2.1 < ((List.length y9:Nat):Int)))
 (ck (decide (0<=x7.2.1∧x7.2.1 < ((List.length x8.2.2:Nat):Int))) <|
 bno ((x8.2.2)[(Int.toNat x7.2.1)]?) fun y10 =>
 zw (some (!y10)))
 (zw (some false))) fun x11 =>
 br x11
 (bno (zm y1 x7.2.1) fun y12 =>
 bno (zm y12 x8.2.1) fun y13 =>
 ck (decide (0<=y13∧y13 < ((List.length x8.2.2:Nat):Int))) <|
 bno ((x8.2.2)[(Int.toNat y13)]?) fun y14 =>
 jn (σ:=(Bool×(List Bool))) (α:=(LR (Bool×Int×(List Bool)) (LR (Bool×Int×(List Bool)) (LR (Bool×(List Bool)) (List Int))))) (br y14
 (ck (decide (0<=x7.2.1∧x7.2.1 < ((List.length x8.2.2:Nat):Int))) <|
 bno ((x8.2.2)[(Int.toNat x7.2.1)]?) fun y15 =>
 zw (some (true,List.set x8.2.2 (Int.toNat x7.2.1) true)))
 (zw (some (x8.1,x8.2.2)))) fun x16 =>
 nxO (some (x16.1,wi (x8.2.1+(1:Int)),x16.2)))
 (dnO (some (x8.1,x8.2.1,x8.2.2)))
def zfE (y1:(List LI)) (x7:(Bool×Int×(List Bool))):Option (LR (Bool×Int×(List Bool)) (LR (Bool×(List Bool)) LI)) :=
 br (decide (x7.2.1 < ((List.length y1:Nat):Int)))
 (lp (zaU y1 x7) (x7.1,(0:Int),x7.2.2) fun x17 =>
 nxO (some (x17.1,wi (x7.2.1+(1:Int)),x17.2.2)))
 (dnO (some (x7.1,x7.2.1,x7.2.2)))
def zfD (y1:(List LI)) (x6:(Bool×(List Bool))):Option (LR (Bool×(List Bool)) LI) :=
 br x6.1
 (lp (zfE y1) (false,(0:Int),x6.2) fun x18 =>
 nxO (some (x18.1,x18.2.2)))
 (dnO (some (x6.1,x6.2)))
def zfC (x19:(Bool×(List Bool))) (x20:(LI×Int)):Option (LR (LI×Int) LI) :=
 br (decide (x20.2 < ((List.length x19.2:Nat):Int)))
 (ck (decide (0<=x20.2∧x20.2 < ((List.length x19.2:Nat):Int))) <|
 bno ((x19.2)[(Int.toNat x20.2)]?) fun y21 =>
 jn (σ:=(List Int)) (α:=(LR ((List Int)×Int) (List Int))) (br y21
 (ck (decide (List.length x20.1+List.length ([x20.2]:List Int)<=zA)) <|
 zw (some (x20.1++([x20.2]:List Int))))
 (zw (some x20.1))) fun x22 =>
 nxO (some (x22,wi (x20.2+(1:Int)))))
 (dnO (some (x20.1,x20.2)))
def S329 (a0:LD) (a1:LI):Option LI :=
 bno (F338 a0) fun y1 =>
 ck (decide (0<=((List.length y1:Nat):Int)∧((List.length y1:Nat):Int)<=((List.length y1:Nat):Int)∧((List.length y1:Nat):Int)<=zA)) <|
 lp (zdL a1) ((0:Int),List.replicate (Int.toNat ((List.length y1:Nat):Int)) false) fun x5 =>
 lp (zfD y1) (true,x5.2) fun x19 =>
 lp (zfC x19) (([]:List Int),(0:Int)) fun x23 =>
 some x23.1
def P329:=S329 P338
def k329:CSpec:=⟨329,[(.st .outl),(.sl .int)],(.sl .int),fun x=>P329 x.1 x.2,false,[]⟩
theorem r329 {S:Seat} (h:Ok1 S 329 tf329):RtF S [k338] (Rt S k329):=okr h rfl fun x=>by kernel_rfl
end
end
section
section
variable {o:List Dim} {p:List Int} (hf:Fit o p) (hl:p.length<=1000) (hd:∀ d∈o,d.members.length<=1000)
include hf hl hd
theorem P337_eq:P337 o p=some (byL o p):=by
 simp only[P337,S337];have hs:=zR (B:=zfB P102 o p) (fun i=>(byN o p i,(i:Int))) p.length (fun i hi=>by
  obtain ⟨d,k,h1,h2,h3,h4⟩:=by_get hf hd hi;have e4:wi ((i:Int)+1)=((i+1:Nat):Int):=by rw[qV (by omega) (by omega)];omega
  have hb:=byN_lt o p i;simp only[zfB];rw[zj,if_pos (by omega)];simp only[zd,h1,h2,zl,P102_eq h4 h3];have hbc:byC o p (byN o p i) i=(!wz d.members k && (decide (byN o p i < 0) || decide ((o.getD (byN o p i).toNat default).solve < d.solve))):=(by simp only[byC,h1,h2,Int.toNat_natCast]);rw[byN,hbc];cases wz d.members k with
  | true=>simp[e4]
  | false =>
   by_cases c:byN o p i < 0
   ·simp[c,e4]
   ·have hg:zm o (byN o p i)=some (o.getD (byN o p i).toNat default):=(by rw[zcC (by omega) (by have:=hf.len;omega),List.getD_eq_getElem?_getD,List.getElem?_eq_getElem (by have:=hf.len;omega)];rfl);simp only[hg,Bool.not_false,zn,zj,if_neg c,zl,zD,qG,e4,decide_eq_false c,Bool.false_or,Bool.true_and];by_cases c2:(o.getD (byN o p i).toNat default).solve < d.solve
    ·simp[c2]
    ·simp[c2])
 rw[qx,show ((-1:Int),(0:Int))=(byN o p 0,((0:Nat):Int)) from rfl,hs,zS (y:=(byN o p p.length,(p.length:Int))) (by simp only[zfB];rw[zj,if_neg (by omega)];rfl)];rfl
end
end
end Ab
