import Derived.Test.YtchidgkpkhloeaaGreatDoorHI
import Derived.Test.YtchidgkpkhloeaaGreatDoorH3
set_option linter.all false
noncomputable section
namespace Ab
open Go
section
set_option maxRecDepth 100000
section
variable (F100:Dim->Int->(Option LI)) (F102:Dim->Int->(Option Bool)) (F106:LD->(Option Int)) (F130:LD->LI->(Option Bool)) (F134:LY->LI->(Option Cell)) (F140:LD->LI->(Option Int)) (F142:LD->Int->(Option LI)) (F146:Cell->Cell->Int->(Option Cell)) (F243:LN->(Option (List ByteArray))) (F247:ByteArray->(Option (LN×Int×Int))) (F250:LI->Int->Int->(Option LI)) (F292:LN->Int->(List ByteArray)->LC->(Option Cell)) (F321:Dim->(Option ((List LI)×Int×Int))) (F325:LD->(List (List LI))->LI->(Option LI)) (F326:LD->(Option (List (List LI)))) (F337:LD->LI->(Option Int)) (F338:LD->(Option (List LI))) (F347:LI->Int->(Option LI)) (F354:LD->LY->LI->LC->(Option Cell)) (F96:Dim->ByteArray->(Option Int))
def l6:TCode:=.seq (rg [oq 2 (.box 0),om 4 (ci 0)]) (.seq (rg [om 5 (ci (-1))]) (.seq (.seq (rg [om 6 (ci 0)]) (.loop ⟨[.slot 5 .int,.slot 6 .int],[7,8,9,10,11,12,13,14,15,16,17,18,19,20,21,22,23,24,25,26,27,28,29,30,31,32,33,34,35,36,37,38,39,40,41,42,43,44,45],[],[]⟩ 0 (.seq (.seq (rg [om 8 6,om 9 1,oq 10 (.len false 9),oq 11 (.bin .int .lss 8 10)]) (.cond 11 (.skip) (.exit 0))) (.seq (.block 1 (.seq (.region [oq 14 (.fa 0 2),od 15 (.load none 14) [0],om 16 6,od 17 (.ia 3 15 16) [1,2],od 18 (.load (some 3) 17) [3],om 19 1,om 20 6,od 21 (.ia 1 19 20) [5,6],od 22 (.load none 21) [7],od 23 (.call false [] 102 [18,22]) [4,8],od 7 (.mov 23) [9,9,0,1,2,3,4,5,6,7,8,9]] [] true) (.seq (.regionJ ⟨[.slot 44 .bool],[24,25,26,27,28,29,30,31,32,33,34,35,36,37,38,39,40,41,42,43],[],[]⟩ [om 24 7,od 25 (.un .not 24) [0],od 26 (.mov 25) [1],og 27 (.mov 5) 26 true [2],og 28 (.bin .int .lss 27 (ci 0)) 26 true [3,2],og 29 (.mov 28) 26 true [4,2,2],og 30 (.fa 0 2) 29 false [5],og 31 (.load none 30) 29 false [6,5],og 32 (.mov 6) 29 false [5],og 33 (.ia 3 31 32) 29 false [7,8,5],og 34 (.fa 1 33) 29 false [9,5],og 35 (.load none 34) 29 false [10,5],og 36 (.fa 0 2) 29 false [5],og 37 (.load none 36) 29 false [12,5],og 38 (.mov 5) 29 false [5],og 39 (.ia 3 37 38) 29 false [13,14,5],og 40 (.fa 1 39) 29 false [15,5],og 41 (.load none 40) 29 false [16,5],og 42 (.bin .int .gtr 35 41) 29 false [11,17,5],og 43 (.pick 29 (cb true) 42) 26 true [5,18,2],od 44 (.pick 26 43 (cb false)) [2,19]] [] true) (.condJ ⟨[.slot 5 .int],[45],[],[]⟩ 44 (rg [om 45 6,om 5 45]) (.skip))))) (rg [om 12 6,oq 13 (.bin .int .add 12 (ci 1)),om 6 13]))))) (.seq (rg [om 46 5,om 4 46]) (.ret)))) 
def kW:TFunc:=⟨2,47,[.tmp 4],false,l6,[]⟩
def zgl (a0:LD) (a1:LI) (x1:(Int×Int)):Option (LR (Int×Int) Int) :=
 br (decide (x1.2 < (a1.length:Int)))
 (bno (zl a0 x1.2) fun y2 =>
 bno (zl a1 x1.2) fun y3 =>
 bno (F102 y2 y3) fun y4 =>
 jn (σ:=Bool) (α:=(LR (Int×Int) Int)) (br (!y4)
 (br (decide (x1.1 < (0:Int)))
 (zt (some true))
 (bno (zl a0 x1.2) fun y5 =>
 bno (zl a0 x1.1) fun y6 =>
 zt (some (decide ((Dim.solve y6) < (Dim.solve y5))))))
 (zt (some false))) fun x7 =>
 jn (σ:=Int) (α:=(LR (Int×Int) Int)) (br x7
 (zt (some x1.2))
 (zt (some x1.1))) fun x8 =>
 nxO (some (x8,wi (x1.2+(1:Int)))))
 (dnO (some (x1.1,x1.2)))
def S337 (a0:LD) (a1:LI):Option Int :=
 lp (zgl F102 a0 a1) ((-1:Int),(0:Int)) fun x9 =>
 some x9.1
def P337:=S337 P102
def fS:CSpec:=⟨337,[(.st .outl),(.sl .int)],.int,fun x=>P337 x.1 x.2,false,[]⟩
def pt {S:Seat} (h:Ok1 S 337 kW):RtF S [gb] (Rt S fS):=okr h rfl fun x=>by kernel_rfl
def me:TCode:=.seq (rg [oq 3 (.box 0),om 6 cn]) (.seq (rg [oq 11 (.load (some 1) 3),om 12 2,oq 13 (.call false [] 337 [11,12]),om 7 13]) (.seq (.seq (rg [om 14 7,oq 15 (.bin .int .lss 14 (ci 0))]) (.cond 15 (.seq (rg [om 6 cn]) (.ret)) (.skip))) (.seq (rg [om 8 cn]) (.seq (.region [om 16 1,om 17 7,od 18 (.ia 1 16 17) [0,1],od 19 (.load none 18) [2],om 20 2,om 21 7,od 22 (.ia 1 20 21) [4,5],od 23 (.load none 22) [6],od 24 (.ia 1 19 23) [3,7],od 25 (.load none 24) [8],od 9 (.mov 25) [9,0,1,2,3,4,5,6,7,8,9]] [] true) (.seq (.seq (rg [om 10 (ci 0)]) (.loop ⟨[.slot 8 (.sl .int),.slot 10 .int],[26,27,28,29,30,31,32,33,34,35,36,37,38,39,40,41,42],[],[]⟩ 0 (.seq (.seq (rg [om 26 10,om 27 9,oq 28 (.len false 27),oq 29 (.bin .int .lss 26 28)]) (.cond 29 (.skip) (.exit 0))) (.seq (.block 1 (.region [om 32 8,oq 33 (.load (some 1) 3),om 34 2,om 35 7,om 36 9,om 37 10,od 38 (.ia 1 36 37) [4,5],od 39 (.load none 38) [6],od 40 (.call true [] 250 [34,35,39]) [2,3,7],od 41 (.call false [] 140 [33,40]) [1,8,8],od 42 (.call true [] 347 [32,41]) [0,9,9],od 8 (.mov 42) [10,10,0,1,2,3,4,5,6,7,8,9,10]] [] true)) (rg [om 30 10,oq 31 (.bin .int .add 30 (ci 1)),om 10 31]))))) (.seq (rg [om 43 8,om 6 43]) (.ret))))))) 
def lj:TFunc:=⟨3,44,[.tmp 6],false,me,[]⟩
def zgq (a0:LD) (a2:LI) (y1:Int) (y4:LI) (x5:(LI×Int)):Option (LR (LI×Int) LI) :=
 br (decide (x5.2 < (y4.length:Int)))
 (bno (zl y4 x5.2) fun y6 =>
 bno (F250 a2 y1 y6) fun y7 =>
 bno (F140 a0 y7) fun y8 =>
 bno (F347 x5.1 y8) fun y9 =>
 nxO (some (y9,wi (x5.2+(1:Int)))))
 (dnO (some (x5.1,x5.2)))
def S325 (a0:LD) (a1:(List (List LI))) (a2:LI):Option LI :=
 bno (F337 a0 a2) fun y1 =>
 br (decide (y1 < (0:Int)))
 (some ([]:List Int))
 (bno (zl a1 y1) fun y2 =>
 bno (zl a2 y1) fun y3 =>
 bno (zl y2 y3) fun y4 =>
 lp (zgq F140 F250 F347 a0 a2 y1 y4) (([]:List Int),(0:Int)) fun bg =>
 some bg.1)
def P325:=S325 P140 P250 P337 zff
def im:CSpec:=⟨325,[(.st .outl),(.sl (.sl (.sl .int))),(.sl .int)],(.sl .int),fun x=>P325 x.1 x.2.1 x.2.2,false,[]⟩
def pC {S:Seat} (h:Ok1 S 325 lj):RtF S [fZ,fV,fS,fQ] (Rt S im):=okr h rfl fun x=>by kernel_rfl
def mc:TCode:=.seq (rg [oq 1 (.box 0),om 2 cn]) (.seq (rg [om 3 cn]) (.seq (.seq (rg [om 4 (ci 0)]) (.loop ⟨[.row 3 28 (.sl (.sl .int)),.slot 4 .int],[5,6,7,8,9,10,11,12,13,14,15,16,17,18,19,20,21,22,23,24,25,26,27,28],[27],[]⟩ 0 (.seq (.seq (rg [om 8 4,oq 9 (.fa 0 1),oq 10 (.load none 9),oq 11 (.len false 10),oq 12 (.bin .int .lss 8 11)]) (.cond 12 (.skip) (.exit 0))) (.seq (.block 1 (.seq (rg [oq 16 (.fa 0 1),oq 17 (.load none 16),om 18 4,oq 19 (.ia 3 17 18),oq 20 (.load (some 3) 19),oq 21 (.call true [] 321 [20]),om 15 21,oq 22 (.ext 15 0),oq 23 (.ext 15 1),oq 24 (.ext 15 2),om 5 22,om 6 23,om 7 24]) (.region [om 25 3,om 26 5,oq 27 (.bslice true 1 [.slice none 0 0] 1 [(0,26)]),oq 28 (.app 1 25 27),om 3 28] [.int,.int,(.sl (.sl .int)),(.sl (.sl .int))] false))) (rg [om 13 4,oq 14 (.bin .int .add 13 (ci 1)),om 4 14]))))) (.seq (rg [om 29 3,om 2 29]) (.ret)))) 
def lg:TFunc:=⟨1,30,[.tmp 2],false,mc,[]⟩
def zgp (a0:LD) (x1:((List (List LI))×Int)):Option (LR ((List (List LI))×Int) (List (List LI))) :=
 br (decide (x1.2 < (a0.length:Int)))
 (bno (zl a0 x1.2) fun y2 =>
 bno (F321 y2) fun y3 =>
 ck (decide (List.length x1.1+List.length ([y3.1]:List (List (List Int)))<=zu)) <|
 nxO (some (x1.1++([y3.1]:List (List (List Int))),wi (x1.2+(1:Int)))))
 (dnO (some (x1.1,x1.2)))
def S326 (a0:LD):Option (List (List LI)) :=
 lp (zgp F321 a0) (([]:List (List (List Int))),(0:Int)) fun x4 =>
 some x4.1
def P326:=S326 P321
def il:CSpec:=⟨326,[(.st .outl)],(.sl (.sl (.sl .int))),fun x=>P326 x,false,[]⟩
def pB {S:Seat} (h:Ok1 S 326 lg):RtF S [fU] (Rt S il):=okr h rfl fun x=>by kernel_rfl
def lZ:TCode:=.seq (rg [oq 1 (.box 0),om 2 cn]) (.seq (rg [oq 8 (.load (some 1) 1),oq 9 (.call true [] 326 [8]),om 3 9]) (.seq (rg [om 4 cn]) (.seq (rg [oq 10 (.load (some 1) 1),oq 11 (.call false [] 106 [10]),om 5 11]) (.seq (.seq (rg [om 6 (ci 0)]) (.loop ⟨[.row 4 26 (.sl .int),.slot 6 .int],[7,12,13,14,15,16,17,18,19,20,21,22,23,24,25,26],[25],[]⟩ 0 (.seq (.seq (rg [om 12 6,om 13 5,oq 14 (.bin .int .lss 12 13)]) (.cond 14 (.skip) (.exit 0))) (.seq (.block 1 (.seq (.region [oq 17 (.load (some 1) 1),om 18 3,oq 19 (.load (some 1) 1),om 20 6,od 21 (.call true [] 142 [19,20]) [2,3],od 22 (.call true [] 325 [17,18,21]) [0,1,4,4],od 7 (.mov 22) [5,5,0,1,2,3,4,5]] [] true) (.region [om 23 4,om 24 7,oq 25 (.bslice true 1 [.slice none 0 0] 1 [(0,24)]),oq 26 (.app 1 23 25),om 4 26] [.int,.int,(.sl .int),(.sl .int)] false))) (rg [om 15 6,oq 16 (.bin .int .add 15 (ci 1)),om 6 16]))))) (.seq (rg [om 27 4,om 2 27]) (.ret)))))) 
def kV:TFunc:=⟨1,28,[.tmp 2],false,lZ,[]⟩
def zgk (a0:LD) (y1:(List (List LI))) (y2:Int) (x3:((List LI)×Int)):Option (LR ((List LI)×Int) (List LI)) :=
 br (decide (x3.2 < y2))
 (bno (F142 a0 x3.2) fun y4 =>
 bno (F325 a0 y1 y4) fun y5 =>
 ck (decide (List.length x3.1+List.length ([y5]:List (List Int))<=zu)) <|
 nxO (some (x3.1++([y5]:List (List Int)),wi (x3.2+(1:Int)))))
 (dnO (some (x3.1,x3.2)))
def S338 (a0:LD):Option (List LI) :=
 bno (F326 a0) fun y1 =>
 bno (F106 a0) fun y2 =>
 lp (zgk F142 F325 a0 y1 y2) (([]:List (List Int)),(0:Int)) fun x6 =>
 some x6.1
def P338:=S338 P106 zlc P325 P326
def fR:CSpec:=⟨338,[(.st .outl)],(.sl (.sl .int)),fun x=>P338 x,false,[]⟩
def pr {S:Seat} (h:Ok1 S 338 kV):RtF S [ga,eT,im,il] (Rt S fR):=okr h rfl fun x=>by kernel_rfl
def lV:TCode:=.seq (rg [oq 4 (.box 0),oq 8 (.alloc [.int .i64 0,.int .i64 0])]) (.seq (rg [oq 22 (.load (some 1) 4),om 23 2,oq 24 (.call false [] 337 [22,23]),om 9 24]) (.seq (.seq (rg [om 25 9,oq 26 (.bin .int .lss 25 (ci 0))]) (.cond 26 (.seq (rg [om 27 1,om 28 2,oq 29 (.call false [] 134 [27,28]),on (.store 2 8 29)]) (.ret)) (.skip))) (.seq (rg [oq 30 (.fa 0 4),oq 31 (.load none 30),om 32 9,oq 33 (.ia 3 31 32),oq 34 (.load (some 3) 33),oq 10 (.alloc [.string ⟨#[]⟩,.int .i64 0,.slice none 0 0]),on (.store 3 10 34)]) (.seq (.seq (.region [oq 35 (.fa 2 10),od 36 (.load none 35) [0],om 37 2,om 38 9,od 39 (.ia 1 37 38) [2,3],od 40 (.load none 39) [4],od 41 (.ia 4 36 40) [1,5],od 42 (.fa 3 41) [6],od 43 (.load none 42) [7],od 44 (.bin .str .neq 43 (cs ⟨#[]⟩)) [8]] [] true) (.cond 44 (.seq (.region [oq 46 (.fa 2 10),od 47 (.load none 46) [0],om 48 2,om 49 9,od 50 (.ia 1 48 49) [2,3],od 51 (.load none 50) [4],od 52 (.ia 4 47 51) [1,5],od 53 (.fa 3 52) [6],od 54 (.load none 53) [7],od 55 (.call true [] 247 [54]) [8],od 45 (.mov 55) [9],od 56 (.ext 45 0) [10],od 57 (.ext 45 1) [10],od 58 (.ext 45 2) [10],od 11 (.mov 56) [11,9,0,1,2,3,4,5,6,7,8,9,10,11],od 12 (.mov 57) [12,14,0,1,2,3,4,5,6,7,8,9,10,11,12,14],od 13 (.mov 58) [13,15,0,1,2,3,4,5,6,7,8,9,10,11,12,13,14,15]] [] true) (.seq (rg [om 59 11,oq 60 (.call true [] 243 [59]),om 14 60]) (.seq (rg [om 15 cn]) (.seq (.seq (rg [om 16 (ci 0)]) (.loop ⟨[.row 15 84 .cell,.slot 16 .int],[17,61,62,63,64,65,66,67,68,69,70,71,72,73,74,75,76,77,78,79,80,81,82,83,84],[17,83],[]⟩ 0 (.seq (.seq (rg [om 61 16,om 62 14,oq 63 (.len false 62),oq 64 (.bin .int .lss 61 63)]) (.cond 64 (.skip) (.exit 0))) (.seq (.block 1 (.seq (.region [om 67 3,oq 68 (.load (some 1) 4),om 69 2,om 70 9,oq 71 (.load (some 3) 10),om 72 14,om 73 16,od 74 (.ia 1 72 73) [5,6],od 75 (.load none 74) [7],od 76 (.call false [] 96 [71,75]) [4,8],od 77 (.call true [] 250 [69,70,76]) [2,3,9,9],od 78 (.call false [] 140 [68,77]) [1,10,10],od 79 (.ia 2 67 78) [0,11],od 80 (.load (some 2) 79) [12],oq 17 (.alloc [.int .i64 0,.int .i64 0]),⟨none,.store 2 17 80,none,[14,13,11,0,1,2,3,4,5,6,7,8,9,10,11,12,13,14]⟩] [] true) (.region [om 81 15,oq 82 (.load (some 2) 17),oq 83 (.bslice false 2 [.int .i64 0,.int .i64 0] 1 [(0,82)]),oq 84 (.app 2 81 83),om 15 84] [.int,.int,.cell,.cell] false))) (rg [om 65 16,oq 66 (.bin .int .add 65 (ci 1)),om 16 66]))))) (.seq (rg [om 85 11,om 86 11,oq 87 (.len false 86),oq 88 (.bin .int .sub 87 (ci 1)),om 89 14,om 90 15,oq 91 (.call false [] 292 [85,88,89,90]),on (.store 2 8 91)]) (.ret)))))) (.skip))) (.seq (rg [oq 18 (.alloc [.int .i64 0,.int .i64 0])]) (.seq (.region [oq 92 (.load (some 3) 10),om 93 2,om 94 9,od 95 (.ia 1 93 94) [1,2],od 96 (.load none 95) [3],od 97 (.call true [] 100 [92,96]) [0,4],od 19 (.mov 97) [5,5,0,1,2,3,4,5]] [] true) (.seq (.seq (rg [om 20 (ci 0)]) (.loop ⟨[.slot 20 .int,.var 18 [.sh .int,.sh .int]],[21,98,99,100,101,102,103,104,105,106,107,108,109,110,111,112,113,114,115,116,117,118,119,120,121,122,123,124,125,126,127,128,129],[],[]⟩ 2 (.seq (.seq (rg [om 98 20,om 99 19,oq 100 (.len false 99),oq 101 (.bin .int .lss 98 100)]) (.cond 101 (.skip) (.exit 2))) (.seq (.block 3 (.seq (.region [oq 104 (.fa 2 10),od 105 (.load none 104) [0],om 106 19,om 107 20,od 108 (.ia 1 106 107) [2,3],od 109 (.load none 108) [4],od 110 (.ia 4 105 109) [1,5],od 111 (.fa 2 110) [6],od 112 (.load none 111) [7],od 21 (.mov 112) [8,0,1,2,3,4,5,6,7,8]] [] true) (.seq (rg [om 113 21,oq 114 (.bin .int .neq 113 (ci 0))]) (.condJ ⟨[.var 18 [.sh .int,.sh .int]],[115,116,117,118,119,120,121,122,123,124,125,126,127,128,129],[],[]⟩ 114 (.region [oq 115 (.load (some 2) 18),om 116 3,oq 117 (.load (some 1) 4),om 118 2,om 119 9,om 120 19,om 121 20,od 122 (.ia 1 120 121) [5,6],od 123 (.load none 122) [7],od 124 (.call true [] 250 [118,119,123]) [3,4,8],od 125 (.call false [] 140 [117,124]) [2,9,9],od 126 (.ia 2 116 125) [1,10],od 127 (.load (some 2) 126) [11],om 128 21,od 129 (.call false [] 146 [115,127,128]) [0,12,13,10],⟨none,.store 2 18 129,none,[14,14,0,1,2,3,4,5,6,7,8,9,10,11,12,13,14]⟩] [] true) (.skip))))) (rg [om 102 20,oq 103 (.bin .int .add 102 (ci 1)),om 20 103]))))) (.seq (rg [oq 130 (.load (some 2) 18),on (.store 2 8 130)]) (.ret))))))))) 
def kQ:TFunc:=⟨4,131,[.cell 8 (some 2)],false,lV,[]⟩
def zgb (a0:LD) (a2:LI) (a3:LC) (y1:Int) (y3:Dim) (y9:(List ByteArray)) (bg:(LC×Int)):Option (LR (LC×Int) Cell) :=
 br (decide (bg.2 < (y9.length:Int)))
 (bno (zl y9 bg.2) fun cS =>
 bno (F96 y3 cS) fun da =>
 bno (F250 a2 y1 da) fun cp =>
 bno (F140 a0 cp) fun eM =>
 bno (zl a3 eM) fun dY =>
 ck (decide (List.length bg.1+List.length ([dY]:List Cell)<=zu)) <|
 nxO (some (bg.1++([dY]:List Cell),wi (bg.2+(1:Int)))))
 (dnO (some (bg.1,bg.2)))
def zga (a0:LD) (a2:LI) (a3:LC) (y1:Int) (y3:Dim) (fE:LI) (dZ:(Int×(Int×Int))):Option (LR (Int×(Int×Int)) Cell) :=
 br (decide (dZ.1 < (fE.length:Int)))
 (bno (zl fE dZ.1) fun gU =>
 bno (zl (Dim.members y3) gU) fun oO =>
 jn (σ:=(Int×Int)) (α:=(LR (Int×(Int×Int)) Cell)) (br (decide (¬ (Member.sign oO)=(0:Int)))
 (bno (zl fE dZ.1) fun y23 =>
 bno (F250 a2 y1 y23) fun oN =>
 bno (F140 a0 oN) fun y25 =>
 bno (zl a3 y25) fun y26 =>
 bno (F146 (Cell.mk dZ.2.1 dZ.2.2) y26 (Member.sign oO)) fun tn =>
 zt (some (Cell.k tn,Cell.n tn)))
 (zt (some (dZ.2.1,dZ.2.2)))) fun kO =>
 nxO (some (wi (dZ.1+(1:Int)),(kO.1,kO.2))))
 (dnO (some (dZ.1,(dZ.2.1,dZ.2.2))))
def S354 (a0:LD) (a1:LY) (a2:LI) (a3:LC):Option Cell :=
 bno (F337 a0 a2) fun y1 =>
 br (decide (y1 < (0:Int)))
 (bno (F134 a1 a2) fun y2 =>
 some y2)
 (bno (zl a0 y1) fun y3 =>
 bno (zl a2 y1) fun y4 =>
 bno (zl (Dim.members y3) y4) fun y5 =>
 br (decide (¬ (Member.formula y5)=(⟨#[]⟩:ByteArray)))
 (bno (zl a2 y1) fun y6 =>
 bno (zl (Dim.members y3) y6) fun y7 =>
 bno (F247 (Member.formula y7)) fun y8 =>
 bno (F243 y8.1) fun y9 =>
 lp (zgb F140 F250 F96 a0 a2 a3 y1 y3 y9) (([]:List Cell),(0:Int)) fun dC =>
 bno (F292 y8.1 (wi ((y8.1.length:Int) - (1:Int))) y9 dC.1) fun eL =>
 some eL)
 (bno (zl a2 y1) fun n9 =>
 bno (F100 y3 n9) fun fE =>
 lp (zga F140 F146 F250 a0 a2 a3 y1 y3 fE) ((0:Int),((0:Int),(0:Int))) fun tu =>
 some (Cell.mk tu.2.1 tu.2.2)))
def P354:=S354 P100 P134 P140 P146 P243 P247 P250 P292 P337 P96
def gY:CSpec:=⟨354,[(.st .outl),(.sl .entry),(.sl .int),(.sl .cell)],(.st .cell),fun x=>P354 x.1 x.2.1 x.2.2.1 x.2.2.2,false,[]⟩
def ph {S:Seat} (h:Ok1 S 354 kQ):RtF S [eU,iz,fZ,eo,iv,fW,fV,iu,fS,mW] (Rt S gY):=okr h rfl fun x=>by kernel_rfl
def l7:TCode:=.seq (rg [oq 2 (.box 0),om 4 cn]) (.seq (rg [oq 13 (.load (some 1) 2),oq 14 (.call true [] 338 [13]),om 5 14]) (.seq (.region [om 15 5,oq 16 (.len false 15),oq 17 (.mksl 2 [.int .i64 0,.int .i64 0] 16 16),om 6 17] [.int,.int,.cell] false) (.seq (.region [om 18 5,oq 19 (.len false 18),oq 20 (.mksl 1 [.bool false] 19 19),om 7 20] [.int,.int,.bool] false) (.seq (.seq (rg [om 8 (cb true)]) (.loop ⟨[.slot 8 .bool,.rowH 17 .cell,.rowH 20 .bool],[9,10,11,12,21,22,23,24,25,26,27,28,29,30,31,32,33,34,35,36,37,38,39,40,41,42,43,44,45,46,47,48,49,50,51,52,53,54,55,56,57,58,59,60,61,62,63,64,65,66,67,68,69],[12],[]⟩ 0 (.seq (.seq (rg [om 21 8]) (.cond 21 (.skip) (.exit 0))) (.block 1 (.seq (rg [om 8 (cb false)]) (.seq (rg [om 9 (ci 0)]) (.loop ⟨[.slot 8 .bool,.slot 9 .int,.rowH 17 .cell,.rowH 20 .bool],[10,11,12,22,23,24,25,26,27,28,29,30,31,32,33,34,35,36,37,38,39,40,41,42,43,44,45,46,47,48,49,50,51,52,53,54,55,56,57,58,59,60,61,62,63,64,65,66,67,68,69],[12],[]⟩ 2 (.seq (.seq (rg [om 22 9,om 23 5,oq 24 (.len false 23),oq 25 (.bin .int .lss 22 24)]) (.cond 25 (.skip) (.exit 2))) (.seq (.block 3 (.seq (rg [om 28 7,om 29 9,oq 30 (.ia 1 28 29),oq 31 (.load none 30),oq 32 (.un .not 31),om 10 32]) (.seq (.seq (rg [om 11 (ci 0)]) (.loop ⟨[.slot 10 .bool,.slot 11 .int],[33,34,35,36,37,38,39,40,41,42,43,44,45,46,47,48,49,50,51,52,53,54],[],[]⟩ 4 (.seq (.seq (.regionJ ⟨[.slot 42 .bool],[33,34,35,36,37,38,39,40,41],[],[]⟩ [om 33 11,om 34 5,om 35 9,oq 36 (.ia 1 34 35),oq 37 (.load none 36),oq 38 (.len false 37),oq 39 (.bin .int .lss 33 38),om 40 39,og 41 (.mov 10) 40 true [],oq 42 (.pick 40 41 (cb false))] [] false) (.cond 42 (.skip) (.exit 4))) (.seq (.block 5 (rg [om 45 7,om 46 5,om 47 9,oq 48 (.ia 1 46 47),oq 49 (.load none 48),om 50 11,oq 51 (.ia 1 49 50),oq 52 (.load none 51),oq 53 (.ia 1 45 52),oq 54 (.load none 53),om 10 54])) (rg [om 43 11,oq 44 (.bin .int .add 43 (ci 1)),om 11 44]))))) (.seq (rg [om 55 10]) (.condJ ⟨[.slot 8 .bool,.rowH 17 .cell,.rowH 20 .bool],[12,56,57,58,59,60,61,62,63,64,65,66,67,68,69],[12],[]⟩ 55 (.seq (.region [oq 56 (.load (some 1) 2),om 57 1,oq 58 (.load (some 1) 2),om 59 9,od 60 (.call true [] 142 [58,59]) [2,3],om 61 6,od 62 (.call false [] 354 [56,57,60,61]) [0,1,4,5,4],oq 12 (.alloc [.int .i64 0,.int .i64 0]),⟨none,.store 2 12 62,none,[7,6,6,0,1,2,3,4,5,6,7]⟩] [] true) (.seq (rg [om 63 6,om 64 9,oq 65 (.load (some 2) 12),oq 66 (.ia 2 63 64),on (.store 2 66 65)]) (.seq (rg [om 67 7,om 68 9,oq 69 (.ia 1 67 68),on (.store 1 69 (cb true))]) (rg [om 8 (cb true)])))) (.skip)))))) (rg [om 26 9,oq 27 (.bin .int .add 26 (ci 1)),om 9 27])))))))))) (.seq (rg [om 70 6,om 4 70]) (.ret)))))) 
def kY:TFunc:=⟨2,71,[.tmp 4],false,l7,[]⟩
def zgn (y1:(List LI)) (x3:(Bool×Int×LC×(List Bool))) (x5:(Bool×Int)):Option (LR (Bool×Int) (LR (Bool×Int×LC×(List Bool)) (LR (Bool×LC×(List Bool)) LC))) :=
 jn (σ:=Bool) (α:=(LR (Bool×Int) (LR (Bool×Int×(List Cell)×(List Bool)) (LR (Bool×(List Cell)×(List Bool)) (List Cell))))) (bno (zl y1 x3.2.1) fun y6 =>
 br (decide (x5.2 < (y6.length:Int)))
 (zt (some x5.1))
 (zt (some false))) fun x7 =>
 br x7
 (bno (zl y1 x3.2.1) fun y8 =>
 bno (zl y8 x5.2) fun y9 =>
 ck (decide (0<=y9∧y9 < (x3.2.2.2.length:Int))) <|
 bno ((x3.2.2.2)[(Int.toNat y9)]?) fun dw =>
 nxO (some (dw,wi (x5.2+(1:Int)))))
 (dnO (some (x5.1,x5.2)))
def zgm (a0:LD) (a1:LY) (y1:(List LI)) (x3:(Bool×Int×LC×(List Bool))):Option (LR (Bool×Int×LC×(List Bool)) (LR (Bool×LC×(List Bool)) LC)) :=
 br (decide (x3.2.1 < (y1.length:Int)))
 (ck (decide (0<=x3.2.1∧x3.2.1 < (x3.2.2.2.length:Int))) <|
 bno ((x3.2.2.2)[(Int.toNat x3.2.1)]?) fun y4 =>
 lp (zgn y1 x3) (!y4,(0:Int)) fun dQ =>
 jn (σ:=(Bool×(List Cell)×(List Bool))) (α:=(LR (Bool×Int×(List Cell)×(List Bool)) (LR (Bool×(List Cell)×(List Bool)) (List Cell)))) (br dQ.1
 (bno (F142 a0 x3.2.1) fun da =>
 bno (F354 a0 a1 da x3.2.2.1) fun cp =>
 ck (decide (0<=x3.2.1∧x3.2.1 < (x3.2.2.1.length:Int))) <|
 bno ((x3.2.2.1)[(Int.toNat x3.2.1)]?) fun eM =>
 ck (decide (0<=x3.2.1∧x3.2.1 < (x3.2.2.2.length:Int))) <|
 bno ((x3.2.2.2)[(Int.toNat x3.2.1)]?) fun dY =>
 zt (some (true,List.set x3.2.2.1 (Int.toNat x3.2.1) cp,List.set x3.2.2.2 (Int.toNat x3.2.1) true)))
 (zt (some (x3.1,x3.2.2.1,x3.2.2.2)))) fun dC =>
 nxO (some (dC.1,wi (x3.2.1+(1:Int)),dC.2.1,dC.2.2)))
 (dnO (some (x3.1,x3.2.1,x3.2.2.1,x3.2.2.2)))
def ziY (a0:LD) (a1:LY) (y1:(List LI)) (x2:(Bool×LC×(List Bool))):Option (LR (Bool×LC×(List Bool)) LC) :=
 br x2.1
 (lp (zgm F142 F354 a0 a1 y1) (false,(0:Int),x2.2.1,x2.2.2) fun kv =>
 nxO (some (kv.1,kv.2.2.1,kv.2.2.2)))
 (dnO (some (x2.1,x2.2.1,x2.2.2)))
def S336 (a0:LD) (a1:LY):Option LC :=
 bno (F338 a0) fun y1 =>
 ck (decide (0<=(y1.length:Int)∧(y1.length:Int)<=(y1.length:Int)∧(y1.length:Int)<=zu)) <|
 ck (decide (0<=(y1.length:Int)∧(y1.length:Int)<=(y1.length:Int)∧(y1.length:Int)<=zu)) <|
 lp (ziY F142 F354 a0 a1 y1) (true,List.replicate (Int.toNat (y1.length:Int)) (Cell.mk (0:Int) (0:Int)),List.replicate (Int.toNat (y1.length:Int)) false) fun ku =>
 some ku.2.1
def P336:=S336 zlc P338 P354
def ic:CSpec:=⟨336,[(.st .outl),(.sl .entry)],(.sl .cell),fun x=>P336 x.1 x.2,false,[]⟩
def pw {S:Seat} (h:Ok1 S 336 kY):RtF S [eT,fR,gY] (Rt S ic):=okr h rfl fun x=>by kernel_rfl
end
end
section
section
variable {o:List Dim} {p:List Int} (hf:Fit o p) (hl:p.length<=1000) (hd:∀ d∈o,d.members.length<=1000)
include hf hl hd
def P337_eq:P337 o p=some (byL o p):=by
 simp only[P337,S337];have hs:=zH (B:=zgl P102 o p) (fun i=>(byN o p i,(i:Int))) p.length (fun i hi=>by
  obtain ⟨d,k,h1,h2,h3,h4⟩:=by_get hf hd hi;have e4:wi ((i:Int)+1)=((i+1:Nat):Int):=by rw[qp (by omega) (by omega)];omega
  have hb:=byN_lt o p i;simp only[zgl];rw[zh,if_pos (by omega)];simp only[za,h1,h2,zi,P102_eq h4 h3];have iW:byC o p (byN o p i) i=(!wU d.members k && (decide (byN o p i < 0) || decide ((o.getD (byN o p i).toNat default).solve < d.solve))):=(by simp only[byC,h1,h2,Aj]);rw[byN,iW];cases wU d.members k with
  | true=>simp[e4]
  | false =>
   by_cases c:byN o p i < 0
   ·simp[c,e4]
   ·have hg:zl o (byN o p i)=some (o.getD (byN o p i).toNat default):=(by rw[zc6 (by omega) (by have:=hf.len;omega),Ad,Aa (by have:=hf.len;omega)];rfl);simp only[hg,BH,zo,zh,if_neg c,zi,zq,zX,e4,decide_eq_false c,Bool.false_or,Bi];by_cases c2:(o.getD (byN o p i).toNat default).solve < d.solve
    ·simp[c2]
    ·simp[c2])
 rw[zV,show ((-1:Int),(0:Int))=(byN o p 0,((0:Nat):Int)) from rfl,hs,zI (y:=(byN o p p.length,(p.length:Int))) (by simp only[zgl];rw[zh,if_neg (by omega)];rfl)];rfl
end
end
end Ab
