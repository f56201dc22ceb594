/-
  Functions of the program as typed code, what they come to, and their contracts: written by program (mk.py).
-/
import Derived.Test.YtkaifdgeigdbhaaGreatDoorF4
set_option linter.all false
noncomputable section
namespace Ab
open Go
set_option maxRecDepth 100000
section
variable (F123:LD->LI->(Option Int)) (F126:LD->LI->(Option (List LI))) (F129:LD->LI->LI->(Option (Int×Bool))) (F134:LY->LI->(Option Cell)) (F28:LI->LI->(Option Bool)) (F335:LD->LY->(Option Int)) (F383:Int->Int->(Option (LI×Int))) (F385:Int->LI->(Option (LI×Int))) (F392:Int->(Option Bool))
def tc392:TCode:=.seq (rg [om 2 (cb false)]) (.seq (.regionJ ⟨[.slot 2 .bool],[3,4,5,6,7,8],[],[]⟩ [om 3 0,oq 4 (.bin .int .geq 3 (ci 0)),om 5 4,og 6 (.mov 0) 5 true [],og 7 (.bin .int .leq 6 (ci 1000000)) 5 true [],oq 8 (.pick 5 7 (cb false)),om 2 8] [] false) (.ret)) 
def tf392:TFunc:=⟨1,9,[.tmp 2],false,tc392,[]⟩
def S392 (a0:Int):Option Bool :=
 jn (σ:=Bool) (α:=Bool) (br (decide ((0:Int)<=a0))
 (zq (some (decide (a0<=(1000000:Int)))))
 (zq (some false))) fun x1 =>
 some x1
def P392:=S392
def k392:CSpec:=⟨392,[.int],.bool,fun x=>P392 x,false,[]⟩
def r392 {S:Seat} (h:Ok1 S 392 tf392):RtF S [] (Rt S k392):=okr h rfl fun x=>by kernel_rfl
def tc383:TCode:=.seq (rg [om 4 cn,om 5 (ci 0)]) (.seq (.seq (.regionJ ⟨[.slot 22 .bool],[9,10,11,12,13,14,15,16,17,18,19,20,21],[],[]⟩ [om 9 0,oq 10 (.bin .int .lss 9 (ci 0)),om 11 10,og 12 (.mov 0) 11 false [],og 13 (.bin .int .gtr 12 (ci 1000000)) 11 false [],oq 14 (.pick 11 (cb true) 13),om 15 14,og 16 (.mov 1) 15 false [],og 17 (.bin .int .lss 16 (ci 1)) 15 false [],oq 18 (.pick 15 (cb true) 17),om 19 18,og 20 (.mov 1) 19 false [],og 21 (.bin .int .gtr 20 (ci 60)) 19 false [],oq 22 (.pick 19 (cb true) 21)] [] false) (.cond 22 (.seq (rg [om 4 cn,om 5 (ci 1)]) (.ret)) (.skip))) (.seq (rg [om 6 cn]) (.seq (.seq (rg [om 7 (ci 0)]) (.loop ⟨[.row 6 41 .int,.slot 7 .int],[8,23,24,25,26,27,28,29,30,31,32,33,34,35,36,37,38,39,40,41],[40],[]⟩ 0 (.seq (.seq (rg [om 23 7,om 24 1,oq 25 (.bin .int .lss 23 24)]) (.cond 25 (.skip) (.exit 0))) (.seq (.block 1 (.seq (rg [om 28 0,om 29 1,oq 30 (.bin .int .quo 28 29),om 8 30]) (.seq (.seq (rg [om 31 7,om 32 0,om 33 1,oq 34 (.bin .int .rem 32 33),oq 35 (.bin .int .lss 31 34)]) (.condJ ⟨[.slot 8 .int],[36,37],[],[]⟩ 35 (rg [om 36 8,oq 37 (.bin .int .add 36 (ci 1)),om 8 37]) (.skip))) (rg [om 38 6,om 39 8,oq 40 (.bslice false 1 [.int .i64 0] 1 [(0,39)]),oq 41 (.app 1 38 40),om 6 41])))) (rg [om 26 7,oq 27 (.bin .int .add 26 (ci 1)),om 7 27]))))) (.seq (rg [om 42 6,om 4 42,om 5 (ci 0)]) (.ret))))) 
def tf383:TFunc:=⟨2,43,[.tmp 4,.tmp 5],false,tc383,[]⟩
def zgM (a0:Int) (a1:Int) (x2:(LI×Int)):Option (LR (LI×Int) (LI×Int)) :=
 br (decide (x2.2 < a1))
 (ck (decide (¬ a1=0)) <|
 ck (decide (¬ a1=0)) <|
 jn (σ:=Int) (α:=(LR ((List Int)×Int) ((List Int)×Int))) (br (decide (x2.2 < (Int.tmod a0 a1)))
 (zq (some (wi ((wi (Int.tdiv a0 a1))+(1:Int)))))
 (zq (some (wi (Int.tdiv a0 a1))))) fun x3 =>
 ck (decide (List.length x2.1+List.length ([x3]:List Int)<=zH)) <|
 nxO (some (x2.1++([x3]:List Int),wi (x2.2+(1:Int)))))
 (dnO (some (x2.1,x2.2)))
def S383 (a0:Int) (a1:Int):Option (LI×Int) :=
 jn (σ:=Bool) (α:=((List Int)×Int)) (br (decide (a0 < (0:Int)))
 (zq (some true))
 (br (decide ((1000000:Int) < a0))
 (zq (some true))
 (br (decide (a1 < (1:Int)))
 (zq (some true))
 (zq (some (decide ((60:Int) < a1))))))) fun x1 =>
 br x1
 (some (([]:List Int),(1:Int)))
 (lp (zgM a0 a1) (([]:List Int),(0:Int)) fun x4 =>
 some (x4.1,(0:Int)))
def P383:=S383
def k383:CSpec:=⟨383,[.int,.int],(.tp [(.sl .int),.int]),fun x=>P383 x.1 x.2,false,[]⟩
def r383 {S:Seat} (h:Ok1 S 383 tf383):RtF S [] (Rt S k383):=okr h rfl fun x=>by kernel_rfl
def tc384:TCode:=.seq (rg [om 4 cn,om 5 cz]) (.seq (.seq (.regionJ ⟨[.slot 18 .bool],[8,9,10,11,12,13,14,15,16,17],[],[]⟩ [om 8 0,oq 9 (.call false [] 392 [8]),oq 10 (.un .not 9),om 11 10,og 12 (.mov 1) 11 false [],og 13 (.bin .int .lss 12 (ci 1)) 11 false [],oq 14 (.pick 11 (cb true) 13),om 15 14,og 16 (.mov 1) 15 false [],og 17 (.bin .int .gtr 16 (ci 60)) 15 false [],oq 18 (.pick 15 (cb true) 17)] [] false) (.cond 18 (.seq (rg [oq 19 (.ifc 1 (ci 1)),om 4 cn,om 5 19]) (.ret)) (.skip))) (.seq (rg [om 20 1,oq 21 (.mksl 1 [.int .i64 0] 20 20),om 6 21]) (.seq (.seq (rg [om 22 6,oq 23 (.len false 22),om 24 (ci 0)]) (.loop ⟨[.slot 24 .int,.rowH 21 .int],[7,25,26,27,28,29,30,31,32,33,34,35,36,37,38,39,40,41,42,43,44],[],[]⟩ 0 (.seq (rg [oq 25 (.bin .int .lss 24 23)]) (.seq (.cond 25 (.skip) (.exit 0)) (.seq (.block 1 (.seq (rg [om 26 24,om 7 26]) (.seq (rg [om 27 6,om 28 7,om 29 0,om 30 1,oq 31 (.bin .int .quo 29 30),oq 32 (.ia 1 27 28),on (.store 1 32 31)]) (.seq (rg [om 33 7,om 34 0,om 35 1,oq 36 (.bin .int .rem 34 35),oq 37 (.bin .int .lss 33 36)]) (.condJ ⟨[.rowH 21 .int],[38,39,40,41,42,43],[],[]⟩ 37 (rg [om 38 6,om 39 7,oq 40 (.ia 1 38 39),oq 41 (.load none 40),oq 42 (.bin .int .add 41 (ci 1)),oq 43 (.ia 1 38 39),on (.store 1 43 42)]) (.skip)))))) (rg [oq 44 (.bin .int .add 24 (ci 1)),om 24 44])))))) (.seq (rg [om 45 6,om 4 45,om 5 cz]) (.ret))))) 
def tf384:TFunc:=⟨2,46,[.tmp 4,.tmp 5],false,tc384,[]⟩
def zgL (a0:Int) (a1:Int) (x3:(Int×LI)):Option (LR (Int×LI) (LI×Err)) :=
 br (decide (x3.1 < ((List.replicate (Int.toNat a1) (0:Int)).length:Int)))
 (ck (decide (¬ a1=0)) <|
 ck (decide (0<=x3.1∧x3.1 < (x3.2.length:Int))) <|
 bno ((x3.2)[(Int.toNat x3.1)]?) fun y4 =>
 ck (decide (¬ a1=0)) <|
 jn (σ:=(List Int)) (α:=(LR (Int×(List Int)) ((List Int)×Err))) (br (decide (x3.1 < (Int.tmod a0 a1)))
 (ck (decide (0<=x3.1∧x3.1 < ((List.length (List.set x3.2 (Int.toNat x3.1) (wi (Int.tdiv a0 a1))):Nat):Int))) <|
 bno ((List.set x3.2 (Int.toNat x3.1) (wi (Int.tdiv a0 a1)))[(Int.toNat x3.1)]?) fun y5 =>
 ck (decide (0<=x3.1∧x3.1 < ((List.length (List.set x3.2 (Int.toNat x3.1) (wi (Int.tdiv a0 a1))):Nat):Int))) <|
 bno ((List.set x3.2 (Int.toNat x3.1) (wi (Int.tdiv a0 a1)))[(Int.toNat x3.1)]?) fun y6 =>
 zq (some (List.set (List.set x3.2 (Int.toNat x3.1) (wi (Int.tdiv a0 a1))) (Int.toNat x3.1) (wi (y5+(1:Int))))))
 (zq (some (List.set x3.2 (Int.toNat x3.1) (wi (Int.tdiv a0 a1)))))) fun x7 =>
 nxO (some (wi (x3.1+(1:Int)),x7)))
 (dnO (some (x3.1,x3.2)))
def S384 (a0:Int) (a1:Int):Option (LI×Err) :=
 jn (σ:=Bool) (α:=((List Int)×Err)) (bno (F392 a0) fun y1 =>
 br (!y1)
 (zq (some true))
 (br (decide (a1 < (1:Int)))
 (zq (some true))
 (zq (some (decide ((60:Int) < a1)))))) fun x2 =>
 br x2
 (some (([]:List Int),Err.no (1:Int)))
 (ck (decide (0<=a1∧a1<=a1∧a1<=zH)) <|
 lp (zgL a0 a1) ((0:Int),List.replicate (Int.toNat a1) (0:Int)) fun x8 =>
 some (x8.2,Err.nil))
def P384:=S384 P392
def k384:CSpec:=⟨384,[.int,.int],(.tp [(.sl .int),.err]),fun x=>P384 x.1 x.2,false,[]⟩
def r384 {S:Seat} (h:Ok1 S 384 tf384):RtF S [k392] (Rt S k384):=okr h rfl fun x=>by kernel_rfl
def tc385:TCode:=.seq (rg [om 4 cn,om 5 (ci 0)]) (.seq (.seq (.regionJ ⟨[.slot 19 .bool],[14,15,16,17,18],[],[]⟩ [om 14 0,oq 15 (.bin .int .lss 14 (ci 0)),om 16 15,og 17 (.mov 0) 16 false [],og 18 (.bin .int .gtr 17 (ci 1000000)) 16 false [],oq 19 (.pick 16 (cb true) 18)] [] false) (.cond 19 (.seq (rg [om 4 cn,om 5 (ci 1)]) (.ret)) (.skip))) (.seq (.seq (.regionJ ⟨[.slot 27 .bool],[20,21,22,23,24,25,26],[],[]⟩ [om 20 1,oq 21 (.len false 20),oq 22 (.bin .int .eql 21 (ci 0)),om 23 22,og 24 (.mov 1) 23 false [],og 25 (.len false 24) 23 false [],og 26 (.bin .int .gtr 25 (ci 60)) 23 false [],oq 27 (.pick 23 (cb true) 26)] [] false) (.cond 27 (.seq (rg [om 4 cn,om 5 (ci 4)]) (.ret)) (.skip))) (.seq (rg [om 6 (ci 0)]) (.seq (.seq (rg [om 7 (ci 0)]) (.loop ⟨[.slot 6 .int,.slot 7 .int],[28,29,30,31,32,33,34,35,36,37,38,39,40,41,42,43,44,45,46,47,48,49,50,51],[],[]⟩ 0 (.seq (.seq (rg [om 28 7,om 29 1,oq 30 (.len false 29),oq 31 (.bin .int .lss 28 30)]) (.cond 31 (.skip) (.exit 0))) (.seq (.block 1 (.seq (.seq (.regionJ ⟨[.slot 45 .bool],[34,35,36,37,38,39,40,41,42,43,44],[],[]⟩ [om 34 1,om 35 7,oq 36 (.ia 1 34 35),oq 37 (.load none 36),oq 38 (.bin .int .lss 37 (ci 0)),om 39 38,og 40 (.mov 1) 39 false [],og 41 (.mov 7) 39 false [],og 42 (.ia 1 40 41) 39 false [],og 43 (.load none 42) 39 false [],og 44 (.bin .int .gtr 43 (ci 1000000)) 39 false [],oq 45 (.pick 39 (cb true) 44)] [] false) (.cond 45 (.seq (rg [om 4 cn,om 5 (ci 1)]) (.ret)) (.skip))) (rg [om 46 6,om 47 1,om 48 7,oq 49 (.ia 1 47 48),oq 50 (.load none 49),oq 51 (.bin .int .add 46 50),om 6 51]))) (rg [om 32 7,oq 33 (.bin .int .add 32 (ci 1)),om 7 33]))))) (.seq (.seq (rg [om 52 6,oq 53 (.bin .int .eql 52 (ci 0))]) (.cond 53 (.seq (rg [om 4 cn,om 5 (ci 3)]) (.ret)) (.skip))) (.seq (rg [om 8 cn]) (.seq (rg [om 54 0,om 9 54]) (.seq (.seq (rg [om 10 (ci 0)]) (.loop ⟨[.row 8 71 .int,.slot 9 .int,.slot 10 .int],[55,56,57,58,59,60,61,62,63,64,65,66,67,68,69,70,71,72,73,74,75,76,77,78,79,80,81],[70],[]⟩ 2 (.seq (.seq (rg [om 55 10,om 56 1,oq 57 (.len false 56),oq 58 (.bin .int .lss 55 57)]) (.cond 58 (.skip) (.exit 2))) (.seq (.block 3 (.seq (rg [om 61 8,om 62 0,om 63 1,om 64 10,oq 65 (.ia 1 63 64),oq 66 (.load none 65),oq 67 (.bin .int .mul 62 66),om 68 6,oq 69 (.bin .int .quo 67 68),oq 70 (.bslice false 1 [.int .i64 0] 1 [(0,69)]),oq 71 (.app 1 61 70),om 8 71]) (rg [om 72 9,om 73 0,om 74 1,om 75 10,oq 76 (.ia 1 74 75),oq 77 (.load none 76),oq 78 (.bin .int .mul 73 77),om 79 6,oq 80 (.bin .int .quo 78 79),oq 81 (.bin .int .sub 72 80),om 9 81]))) (rg [om 59 10,oq 60 (.bin .int .add 59 (ci 1)),om 10 60]))))) (.seq (.region [om 82 1,oq 83 (.len false 82),oq 84 (.mksl 1 [.bool false] 83 83),om 11 84] [.int,.int,.bool] false) (.seq (.loop ⟨[.slot 9 .int,.rowH 71 .int,.rowH 84 .bool],[12,13,85,86,87,88,89,90,91,92,93,94,95,96,97,98,99,100,101,102,103,104,105,106,107,108,109,110,111,112,113,114,115,116,117,118,119,120,121,122,123,124,125,126,127,128,129,130,131,132],[],[]⟩ 4 (.seq (.seq (rg [om 85 9,oq 86 (.bin .int .gtr 85 (ci 0))]) (.cond 86 (.skip) (.exit 4))) (.block 5 (.seq (rg [om 12 (ci (-1))]) (.seq (.seq (rg [om 13 (ci 0)]) (.loop ⟨[.slot 12 .int,.slot 13 .int],[87,88,89,90,91,92,93,94,95,96,97,98,99,100,101,102,103,104,105,106,107,108,109,110,111,112,113,114,115,116,117,118,119,120,121],[],[]⟩ 6 (.seq (.seq (rg [om 87 13,om 88 1,oq 89 (.len false 88),oq 90 (.bin .int .lss 87 89)]) (.cond 90 (.skip) (.exit 6))) (.seq (.block 7 (.seq (.regionJ ⟨[.slot 120 .bool],[93,94,95,96,97,98,99,100,101,102,103,104,105,106,107,108,109,110,111,112,113,114,115,116,117,118,119],[],[]⟩ [om 93 11,om 94 13,od 95 (.ia 1 93 94) [0,1],od 96 (.load none 95) [2],od 97 (.un .not 96) [3],od 98 (.mov 97) [4],og 99 (.mov 12) 98 true [5],og 100 (.bin .int .lss 99 (ci 0)) 98 true [6,5],og 101 (.mov 100) 98 true [7,5,5],og 102 (.mov 0) 101 false [8],og 103 (.mov 1) 101 false [8],og 104 (.mov 13) 101 false [8],og 105 (.ia 1 103 104) 101 false [10,11,8],og 106 (.load none 105) 101 false [12,8],og 107 (.bin .int .mul 102 106) 101 false [9,13,8],og 108 (.mov 6) 101 false [8],og 109 (.bin .int .rem 107 108) 101 false [14,15,8],og 110 (.mov 0) 101 false [8],og 111 (.mov 1) 101 false [8],og 112 (.mov 12) 101 false [8],og 113 (.ia 1 111 112) 101 false [18,19,8],og 114 (.load none 113) 101 false [20,8],og 115 (.bin .int .mul 110 114) 101 false [17,21,8],og 116 (.mov 6) 101 false [8],og 117 (.bin .int .rem 115 116) 101 false [22,23,8],og 118 (.bin .int .gtr 109 117) 101 false [16,24,8],og 119 (.pick 101 (cb true) 118) 98 true [8,25,5],od 120 (.pick 98 119 (cb false)) [5,26]] [] true) (.condJ ⟨[.slot 12 .int],[121],[],[]⟩ 120 (rg [om 121 13,om 12 121]) (.skip)))) (rg [om 91 13,oq 92 (.bin .int .add 91 (ci 1)),om 13 92]))))) (.seq (rg [om 122 11,om 123 12,oq 124 (.ia 1 122 123),on (.store 1 124 (cb true))]) (.seq (rg [om 125 8,om 126 12,oq 127 (.ia 1 125 126),oq 128 (.load none 127),oq 129 (.bin .int .add 128 (ci 1)),oq 130 (.ia 1 125 126),on (.store 1 130 129)]) (rg [om 131 9,oq 132 (.bin .int .sub 131 (ci 1)),om 9 132])))))))) (.seq (rg [om 133 8,om 4 133,om 5 (ci 0)]) (.ret)))))))))))) 
def tf385:TFunc:=⟨2,134,[.tmp 4,.tmp 5],false,tc385,[]⟩
def zaG (a1:LI) (x3:(Int×Int)):Option (LR (Int×Int) (LI×Int)) :=
 br (decide (x3.2 < (a1.length:Int)))
 (jn (σ:=Bool) (α:=(LR (Int×Int) ((List Int)×Int))) (bno (zo a1 x3.2) fun y4 =>
 br (decide (y4 < (0:Int)))
 (zq (some true))
 (bno (zo a1 x3.2) fun y5 =>
 zq (some (decide ((1000000:Int) < y5))))) fun x6 =>
 br x6
 (qP (some (([]:List Int),(1:Int))))
 (bno (zo a1 x3.2) fun y7 =>
 nxO (some (wi (x3.1+y7),wi (x3.2+(1:Int))))))
 (dnO (some (x3.1,x3.2)))
def zeJ (a0:Int) (a1:LI) (x8:(Int×Int)) (x9:(LI×Int×Int)):Option (LR (LI×Int×Int) (LI×Int)) :=
 br (decide (x9.2.2 < (a1.length:Int)))
 (bno (zo a1 x9.2.2) fun dj =>
 ck (decide (¬ x8.1=0)) <|
 ck (decide (List.length x9.1+List.length ([wi (Int.tdiv (wi (a0 * dj)) x8.1)]:List Int)<=zH)) <|
 bno (zo a1 x9.2.2) fun cC =>
 ck (decide (¬ x8.1=0)) <|
 nxO (some (x9.1++([wi (Int.tdiv (wi (a0 * dj)) x8.1)]:List Int),wi (x9.2.1 - (wi (Int.tdiv (wi (a0 * cC)) x8.1))),wi (x9.2.2+(1:Int)))))
 (dnO (some (x9.1,x9.2.1,x9.2.2)))
def yL (a0:Int) (a1:LI) (x8:(Int×Int)) (aL:(Int×LI×(List Bool))) (bD:(Int×Int)):Option (LR (Int×Int) (LR (Int×LI×(List Bool)) (LI×Int))) :=
 br (decide (bD.2 < (a1.length:Int)))
 (jn (σ:=Bool) (α:=(LR (Int×Int) (LR (Int×(List Int)×(List Bool)) ((List Int)×Int)))) (ck (decide (0<=bD.2∧bD.2 < (aL.2.2.length:Int))) <|
 bno ((aL.2.2)[(Int.toNat bD.2)]?) fun dL =>
 br (!dL)
 (br (decide (bD.1 < (0:Int)))
 (zq (some true))
 (bno (zo a1 bD.2) fun kA =>
 ck (decide (¬ x8.1=0)) <|
 bno (zo a1 bD.1) fun kz =>
 ck (decide (¬ x8.1=0)) <|
 zq (some (decide ((Int.tmod (wi (a0 * kz)) x8.1) < (Int.tmod (wi (a0 * kA)) x8.1))))))
 (zq (some false))) fun iZ =>
 jn (σ:=Int) (α:=(LR (Int×Int) (LR (Int×(List Int)×(List Bool)) ((List Int)×Int)))) (br iZ
 (zq (some bD.2))
 (zq (some bD.1))) fun bf =>
 nxO (some (bf,wi (bD.2+(1:Int)))))
 (dnO (some (bD.1,bD.2)))
def zgK (a0:Int) (a1:LI) (x8:(Int×Int)) (aL:(Int×LI×(List Bool))):Option (LR (Int×LI×(List Bool)) (LI×Int)) :=
 br (decide ((0:Int) < aL.1))
 (lp (yL a0 a1 x8 aL) ((-1:Int),(0:Int)) fun dN =>
 ck (decide (0<=dN.1∧dN.1 < (aL.2.2.length:Int))) <|
 bno ((aL.2.2)[(Int.toNat dN.1)]?) fun pA =>
 ck (decide (0<=dN.1∧dN.1 < (aL.2.1.length:Int))) <|
 bno ((aL.2.1)[(Int.toNat dN.1)]?) fun pz =>
 ck (decide (0<=dN.1∧dN.1 < (aL.2.1.length:Int))) <|
 bno ((aL.2.1)[(Int.toNat dN.1)]?) fun y23 =>
 nxO (some (wi (aL.1 - (1:Int)),List.set aL.2.1 (Int.toNat dN.1) (wi (pz+(1:Int))),List.set aL.2.2 (Int.toNat dN.1) true)))
 (dnO (some (aL.1,aL.2.1,aL.2.2)))
def S385 (a0:Int) (a1:LI):Option (LI×Int) :=
 jn (σ:=Bool) (α:=((List Int)×Int)) (br (decide (a0 < (0:Int)))
 (zq (some true))
 (zq (some (decide ((1000000:Int) < a0))))) fun x1 =>
 br x1
 (some (([]:List Int),(1:Int)))
 (jn (σ:=Bool) (α:=((List Int)×Int)) (br (decide ((a1.length:Int)=(0:Int)))
 (zq (some true))
 (zq (some (decide ((60:Int) < (a1.length:Int)))))) fun x2 =>
 br x2
 (some (([]:List Int),(4:Int)))
 (lp (zaG a1) ((0:Int),(0:Int)) fun x8 =>
 br (decide (x8.1=(0:Int)))
 (some (([]:List Int),(3:Int)))
 (lp (zeJ a0 a1 x8) (([]:List Int),a0,(0:Int)) fun bc =>
 ck (decide (0<=(a1.length:Int)∧(a1.length:Int)<=(a1.length:Int)∧(a1.length:Int)<=zH)) <|
 lp (zgK a0 a1 x8) (bc.2.1,bc.1,List.replicate (Int.toNat (a1.length:Int)) false) fun mP =>
 some (mP.2.1,(0:Int)))))
def P385:=S385
def k385:CSpec:=⟨385,[.int,(.sl .int)],(.tp [(.sl .int),.int]),fun x=>P385 x.1 x.2,false,[]⟩
def r385 {S:Seat} (h:Ok1 S 385 tf385):RtF S [] (Rt S k385):=okr h rfl fun x=>by kernel_rfl
def tc387:TCode:=.seq (rg [oq 4 (.box 0),om 8 cn,om 9 (ci 0)]) (.seq (rg [oq 22 (.load (some 1) 4),om 23 1,oq 24 (.call false [] 335 [22,23]),om 10 24]) (.seq (.seq (rg [om 25 10,oq 26 (.bin .int .eql 25 (ci 0))]) (.condJ ⟨[.slot 10 .int],[27,28,29],[],[]⟩ 26 (rg [oq 27 (.load (some 1) 4),om 28 2,oq 29 (.call false [] 123 [27,28]),om 10 29]) (.skip))) (.seq (.seq (rg [om 30 10,oq 31 (.bin .int .neq 30 (ci 0))]) (.cond 31 (.seq (rg [om 32 10,om 8 cn,om 9 32]) (.ret)) (.skip))) (.seq (rg [oq 33 (.load (some 1) 4),om 34 2,oq 35 (.call true [] 126 [33,34]),om 11 35]) (.seq (.seq (rg [om 36 11,oq 37 (.len false 36),oq 38 (.bin .int .eql 37 (ci 0))]) (.cond 38 (.seq (rg [om 8 cn,om 9 (ci 3)]) (.ret)) (.skip))) (.seq (rg [om 12 (cb false)]) (.seq (rg [om 13 (cb false)]) (.seq (rg [om 14 cn]) (.seq (.seq (rg [om 15 (ci 0)]) (.loop ⟨[.slot 12 .bool,.slot 13 .bool,.row 14 79 .int,.slot 15 .int],[16,17,18,39,40,41,42,43,44,45,46,47,48,49,50,51,52,53,54,55,56,57,58,59,60,61,62,63,64,65,66,67,68,69,70,71,72,73,74,75,76,77,78,79],[18,78],[]⟩ 0 (.seq (.seq (rg [om 39 15,om 40 11,oq 41 (.len false 40),oq 42 (.bin .int .lss 39 41)]) (.cond 42 (.skip) (.exit 0))) (.seq (.block 1 (.seq (.region [oq 46 (.load (some 1) 4),om 47 2,om 48 11,om 49 15,od 50 (.ia 1 48 49) [2,3],od 51 (.load none 50) [4],od 52 (.call false [] 129 [46,47,51]) [0,1,5],od 45 (.mov 52) [6],od 53 (.ext 45 0) [7],od 54 (.ext 45 1) [7],od 16 (.mov 53) [8,6,0,1,2,3,4,5,6,7,8],od 17 (.mov 54) [9,10,0,1,2,3,4,5,6,7,8,9,10]] [] true) (.seq (.seq (rg [om 55 16,oq 56 (.bin .int .neq 55 (ci 1))]) (.cond 56 (.seq (rg [om 8 cn,om 9 (ci 3)]) (.ret)) (.skip))) (.seq (rg [om 57 1,om 58 11,om 59 15,oq 60 (.ia 1 58 59),oq 61 (.load none 60),oq 62 (.call false [] 134 [57,61]),oq 18 (.alloc [.int .i64 0,.int .i64 0]),on (.store 2 18 62)]) (.seq (.regionJ ⟨[.slot 12 .bool],[63,64,65,66,67,68],[],[]⟩ [om 63 12,om 64 63,og 65 (.fa 1 18) 64 false [],og 66 (.load none 65) 64 false [],og 67 (.bin .int .gtr 66 (ci 0)) 64 false [],oq 68 (.pick 64 (cb true) 67),om 12 68] [] false) (.seq (.regionJ ⟨[.slot 13 .bool],[69,70,71,72,73,74],[],[]⟩ [om 69 13,om 70 69,og 71 (.fa 1 18) 70 false [],og 72 (.load none 71) 70 false [],og 73 (.bin .int .lss 72 (ci 0)) 70 false [],oq 74 (.pick 70 (cb true) 73),om 13 74] [] false) (rg [om 75 14,oq 76 (.fa 1 18),oq 77 (.load none 76),oq 78 (.bslice false 1 [.int .i64 0] 1 [(0,77)]),oq 79 (.app 1 75 78),om 14 79]))))))) (rg [om 43 15,oq 44 (.bin .int .add 43 (ci 1)),om 15 44]))))) (.seq (.seq (rg [om 80 11,oq 81 (.len false 80),oq 82 (.bin .int .gtr 81 (ci 60))]) (.cond 82 (.seq (rg [om 8 cn,om 9 (ci 4)]) (.ret)) (.skip))) (.seq (rg [om 84 3,om 85 11,oq 86 (.len false 85),oq 87 (.call true [] 383 [84,86]),om 83 87,oq 88 (.ext 83 0),oq 89 (.ext 83 1),om 19 88,om 10 89]) (.seq (.seq (.regionJ ⟨[.slot 94 .bool],[90,91,92,93],[],[]⟩ [om 90 12,om 91 90,og 92 (.mov 13) 91 true [],og 93 (.un .not 92) 91 true [],oq 94 (.pick 91 93 (cb false))] [] false) (.condJ ⟨[.slot 10 .int,.slot 19 (.sl .int)],[95,96,97,98,99,100],[79],[]⟩ 94 (rg [om 96 3,om 97 14,oq 98 (.call true [] 385 [96,97]),om 95 98,oq 99 (.ext 95 0),oq 100 (.ext 95 1),om 19 99,om 10 100]) (.skip))) (.seq (.seq (rg [om 101 10,oq 102 (.bin .int .neq 101 (ci 0))]) (.cond 102 (.seq (rg [om 103 10,om 8 cn,om 9 103]) (.ret)) (.skip))) (.seq (rg [om 20 cn]) (.seq (.seq (rg [om 21 (ci 0)]) (.loop ⟨[.row 20 121 .edit,.slot 21 .int],[104,105,106,107,108,109,110,111,112,113,114,115,116,117,118,119,120,121],[120],[]⟩ 2 (.seq (.seq (rg [om 104 21,om 105 11,oq 106 (.len false 105),oq 107 (.bin .int .lss 104 106)]) (.cond 107 (.skip) (.exit 2))) (.seq (.block 3 (.region [om 110 20,om 111 11,om 112 21,od 113 (.ia 1 111 112) [1,2],od 114 (.load none 113) [3],om 115 19,om 116 21,od 117 (.ia 1 115 116) [5,6],od 118 (.load none 117) [7],od 119 (.build [.slice none 0 0,.int .i64 0,.bool false] [(0,1,114),(1,1,118)]) [4,8],od 120 (.bslice false 3 [.slice none 0 0,.int .i64 0,.bool false] 1 [(0,119)]) [9],od 121 (.app 3 110 120) [0,10],od 20 (.mov 121) [11,11,0,1,2,3,4,5,6,7,8,9,10,11]] [.int,.int,.int,.int,.int,.int,.int,.int,.int,.int,.edit,.edit] true)) (rg [om 108 21,oq 109 (.bin .int .add 108 (ci 1)),om 21 109]))))) (.seq (rg [om 122 20,om 8 122,om 9 (ci 0)]) (.ret))))))))))))))))) 
def tf387:TFunc:=⟨4,123,[.tmp 8,.tmp 9],false,tc387,[]⟩
def zgI (a0:LD) (a1:LY) (a2:LI) (y4:(List LI)) (x5:(Bool×Bool×LI×Int)):Option (LR (Bool×Bool×LI×Int) ((List Edit)×Int)) :=
 br (decide (x5.2.2.2 < (y4.length:Int)))
 (bno (zo y4 x5.2.2.2) fun y6 =>
 bno (F129 a0 a2 y6) fun y7 =>
 br (decide (¬ y7.1=(1:Int)))
 (qP (some (([]:List Edit),(3:Int))))
 (bno (zo y4 x5.2.2.2) fun y8 =>
 bno (F134 a1 y8) fun y9 =>
 jn (σ:=Bool) (α:=(LR (Bool×Bool×(List Int)×Int) ((List Edit)×Int))) (br x5.1
 (zq (some true))
 (zq (some (decide ((0:Int) < (Cell.n y9)))))) fun bn =>
 jn (σ:=Bool) (α:=(LR (Bool×Bool×(List Int)×Int) ((List Edit)×Int))) (br x5.2.1
 (zq (some true))
 (zq (some (decide ((Cell.n y9) < (0:Int)))))) fun cI =>
 ck (decide (List.length x5.2.2.1+List.length ([Cell.n y9]:List Int)<=zH)) <|
 nxO (some (bn,cI,x5.2.2.1++([Cell.n y9]:List Int),wi (x5.2.2.2+(1:Int))))))
 (dnO (some (x5.1,x5.2.1,x5.2.2.1,x5.2.2.2)))
def zgH (y4:(List LI)) (dG:(Int×LI)) (e8:((List Edit)×Int)):Option (LR ((List Edit)×Int) ((List Edit)×Int)) :=
 br (decide (e8.2 < (y4.length:Int)))
 (bno (zo y4 e8.2) fun lS =>
 bno (zo dG.2 e8.2) fun pB =>
 ck (decide (List.length e8.1+List.length ([Edit.mk lS pB false]:List Edit)<=roomB)) <|
 nxO (some (e8.1++([Edit.mk lS pB false]:List Edit),wi (e8.2+(1:Int)))))
 (dnO (some (e8.1,e8.2)))
def S387 (a0:LD) (a1:LY) (a2:LI) (a3:Int):Option ((List Edit)×Int) :=
 bno (F335 a0 a1) fun y1 =>
 jn (σ:=Int) (α:=((List Edit)×Int)) (br (decide (y1=(0:Int)))
 (bno (F123 a0 a2) fun y2 =>
 zq (some y2))
 (zq (some y1))) fun x3 =>
 br (decide (¬ x3=(0:Int)))
 (some (([]:List Edit),x3))
 (bno (F126 a0 a2) fun y4 =>
 br (decide ((y4.length:Int)=(0:Int)))
 (some (([]:List Edit),(3:Int)))
 (lp (zgI F129 F134 a0 a1 a2 y4) (false,false,([]:List Int),(0:Int)) fun bc =>
 br (decide ((60:Int) < (y4.length:Int)))
 (some (([]:List Edit),(4:Int)))
 (bno (F383 a3 (y4.length:Int)) fun cg =>
 jn (σ:=Bool) (α:=((List Edit)×Int)) (br bc.1
 (zq (some (!bc.2.1)))
 (zq (some false))) fun bD =>
 jn (σ:=(Int×(List Int))) (α:=((List Edit)×Int)) (br bD
 (bno (F385 a3 bc.2.2.1) fun dL =>
 zq (some (dL.2,dL.1)))
 (zq (some (cg.2,cg.1)))) fun dG =>
 br (decide (¬ dG.1=(0:Int)))
 (some (([]:List Edit),dG.1))
 (lp (zgH y4 dG) (([]:List Edit),(0:Int)) fun dN =>
 some (dN.1,(0:Int))))))
def P387:=S387 P123 P126 P129 P134 P335 P383 P385
def k387:CSpec:=⟨387,[(.st .outl),(.sl .entry),(.sl .int),.int],(.tp [(.sl .edit),.int]),fun x=>P387 x.1 x.2.1 x.2.2.1 x.2.2.2,false,[]⟩
def r387 {S:Seat} (h:Ok1 S 387 tf387):RtF S [k123,k126,k129,k134,k335,k383,k385] (Rt S k387):=okr h rfl fun x=>by kernel_rfl
def tc388:TCode:=.seq (rg [om 4 (cb false)]) (.seq (.seq (rg [om 7 0,oq 8 (.len false 7),om 9 1,oq 10 (.len false 9),oq 11 (.bin .int .neq 8 10)]) (.cond 11 (.seq (rg [om 4 (cb false)]) (.ret)) (.skip))) (.seq (.seq (rg [om 5 (ci 0)]) (.loop ⟨[.slot 5 .int],[6,12,13,14,15,16,17,18,19,20,21,22,23,24,25,26,27,28,29,30,31,32,33,34,35,36,37,38,39,40,41,42,43,44,45,46,47,48,49,50,51,52,53,54,55,56],[],[]⟩ 0 (.seq (.seq (rg [om 12 5,om 13 0,oq 14 (.len false 13),oq 15 (.bin .int .lss 12 14)]) (.cond 15 (.skip) (.exit 0))) (.seq (.block 1 (.seq (.region [om 18 0,om 19 5,od 20 (.ia 3 18 19) [0,1],od 21 (.fa 0 20) [2],od 22 (.load none 21) [3],om 23 1,om 24 5,od 25 (.ia 3 23 24) [5,6],od 26 (.fa 0 25) [7],od 27 (.load none 26) [8],od 28 (.call false [] 28 [22,27]) [4,9],od 6 (.mov 28) [10,10,0,1,2,3,4,5,6,7,8,9,10]] [] true) (.seq (.regionJ ⟨[.slot 56 .bool],[29,30,31,32,33,34,35,36,37,38,39,40,41,42,43,44,45,46,47,48,49,50,51,52,53,54,55],[],[]⟩ [om 29 6,od 30 (.un .not 29) [0],od 31 (.mov 30) [1],og 32 (.mov 0) 31 false [2],og 33 (.mov 5) 31 false [2],og 34 (.ia 3 32 33) 31 false [3,4,2],og 35 (.fa 1 34) 31 false [5,2],og 36 (.load none 35) 31 false [6,2],og 37 (.mov 1) 31 false [2],og 38 (.mov 5) 31 false [2],og 39 (.ia 3 37 38) 31 false [8,9,2],og 40 (.fa 1 39) 31 false [10,2],og 41 (.load none 40) 31 false [11,2],og 42 (.bin .int .neq 36 41) 31 false [7,12,2],od 43 (.pick 31 (cb true) 42) [2,13],od 44 (.mov 43) [14,2],og 45 (.mov 0) 44 false [15],og 46 (.mov 5) 44 false [15],og 47 (.ia 3 45 46) 44 false [16,17,15],og 48 (.fa 2 47) 44 false [18,15],og 49 (.load none 48) 44 false [19,15],og 50 (.mov 1) 44 false [15],og 51 (.mov 5) 44 false [15],og 52 (.ia 3 50 51) 44 false [21,22,15],og 53 (.fa 2 52) 44 false [23,15],og 54 (.load none 53) 44 false [24,15],og 55 (.bin .bool .neq 49 54) 44 false [20,25,15],od 56 (.pick 44 (cb true) 55) [15,26]] [] true) (.cond 56 (.seq (rg [om 4 (cb false)]) (.ret)) (.skip))))) (rg [om 16 5,oq 17 (.bin .int .add 16 (ci 1)),om 5 17]))))) (.seq (rg [om 4 (cb true)]) (.ret)))) 
def tf388:TFunc:=⟨2,57,[.tmp 4],false,tc388,[]⟩
def zji (a0:(List Edit)) (a1:(List Edit)) (x1:Int):Option (LR Int Bool) :=
 br (decide (x1 < (a0.length:Int)))
 (bno (zo a0 x1) fun y2 =>
 bno (zo a1 x1) fun y3 =>
 bno (F28 (Edit.at_ y2) (Edit.at_ y3)) fun y4 =>
 jn (σ:=Bool) (α:=(LR Int Bool)) (br (!y4)
 (zq (some true))
 (bno (zo a0 x1) fun y5 =>
 bno (zo a1 x1) fun y6 =>
 br (decide (¬ (Edit.n y5)=(Edit.n y6)))
 (zq (some true))
 (bno (zo a0 x1) fun y7 =>
 bno (zo a1 x1) fun y8 =>
 zq (some (decide (¬ (Edit.clear y7)=(Edit.clear y8))))))) fun x9 =>
 br x9
 (qP (some false))
 (nxO (some (wi (x1+(1:Int))))))
 (dnO (some x1))
def S388 (a0:(List Edit)) (a1:(List Edit)):Option Bool :=
 br (decide (¬ (a0.length:Int)=(a1.length:Int)))
 (some false)
 (lp (zji F28 a0 a1) (0:Int) fun bn =>
 some true)
def P388:=S388 P28
def k388:CSpec:=⟨388,[(.sl .edit),(.sl .edit)],.bool,fun x=>P388 x.1 x.2,false,[]⟩
def r388 {S:Seat} (h:Ok1 S 388 tf388):RtF S [k28] (Rt S k388):=okr h rfl fun x=>by kernel_rfl
end
end Ab
