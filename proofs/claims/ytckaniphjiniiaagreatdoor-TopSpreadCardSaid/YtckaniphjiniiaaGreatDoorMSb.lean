/-
  Functions of the program as typed code, what they come to, and their contracts: written by program (mk.py).
-/
import Derived.Test.YtckaniphjiniiaaGreatDoorMSd
set_option linter.all false
noncomputable section
namespace Ab
open Go
set_option maxRecDepth 100000
section
variable (F392:Int->(Option Bool)) (F393_394:LI->(Int×LI×Int)->(Option LI)) (F394:Int->Int->Int->LI->Int->(Option Int)) (F396_394:LI->Int->(Int×LI×Int)->(Option LI)) (F397_394:LI->Int->Int->(Int×LI×Int)->(Option LI)) (F398_394:LI->Int->Int->Int->(Int×LI×Int)->(Option LI)) (F399_394:LI->Int->Int->Int->(Int×LI×Int)->(Option LI)) (F400_394:LI->Int->Int->Int->(Int×LI×Int)->(Option LI)) (F81:Int->Int->(Option Int))
def tc394:TCode:=.seq (rg [om 7 (ci 0)]) (.seq (.region [oq 8 (Ld 2),oq 9 (Ld 3),om 10 1,od 11 (.ia 1 9 10) [1,2],od 12 (Ld 11) [3],od 13 (Bi .mul 8 12) [0,4],oq 14 (Ld 4),od 15 (Bi .rem 13 14) [5,6],oq 16 (Ld 2),oq 17 (Ld 3),om 18 0,od 19 (.ia 1 17 18) [9,10],od 20 (Ld 19) [11],od 21 (Bi .mul 16 20) [8,12],oq 22 (Ld 4),od 23 (Bi .rem 21 22) [13,14],od 24 (Cl 81 [15,23]) [7,15],od 7 (.mov 24) [16,16,0,1,2,3,4,5,6,7,8,9,10,11,12,13,14,15,16]] [] true) .ret) 
def tf394:TFunc:=⟨5,25,[.tmp 7],false,tc394,[]⟩
def S394 (a0:Int) (a1:Int) (a2:Int) (a3:LI) (a4:Int):Option Int :=
 bno (zu a3 a1) fun y1 =>
 ck (decide (¬a4=0)) <|
 bno (zu a3 a0) fun y2 =>
 ck (decide (¬a4=0)) <|
 bno (F81 (Int.tmod (wi (a2*y1)) a4) (Int.tmod (wi (a2*y2)) a4)) fun y3 =>
 some y3
def zck:=S394 P81
def k394:CSpec:=⟨394,[.int,.int,(.bx .int),(.bx (.sl .int)),(.bx .int)],.int,fun x=>zck x.1 x.2.1 x.2.2.1 x.2.2.2.1 x.2.2.2.2,false,[]⟩
def r394 {S:Seat} (h:Ok1 S 394 tf394):RtF S [k81] (Rt S k394):=okr h
def tc400:TCode:=.seq (rg [om 10 (ci 0)]) (.loop ⟨[.slot 10 .int,.rowH 1000 .int],[11,12,13,14,15,16,17,18,19,20,21,22,23,24,25,26,27,28,29,30,31,32,33,34,35,36,37],[],[]⟩ 0 (.seq (.seq (rg [om 11 10,om 12 3,oq 13 (Bi .lss 11 12)]) (.cond 13 .skip (.exit 0))) (.seq (.block 1 (.region [om 16 0,om 17 1,om 18 10,od 19 (Bi .add 17 18) [1,2],om 20 0,om 21 2,om 22 10,od 23 (Bi .add 21 22) [5,6],om 24 0,om 25 2,om 26 10,od 27 (Bi .add 25 26) [9,10],od 28 (.ia 1 24 27) [8,11],od 29 (Ld 28) [12],om 30 0,om 31 1,om 32 10,od 33 (Bi .add 31 32) [15,16],od 34 (.ia 1 30 33) [14,17],od 35 (Ld 34) [18],od 36 (.ia 1 16 19) [0,3,0,1,2,3,8,9,10,11,12,13,19],⟨none,.store 1 36 29,none,[20,13,0,1,2,3,8,9,10,11,12,13,19]⟩,od 37 (.ia 1 20 23) [4,7,0,1,2,3,4,5,6,7,8,9,10,11,12,13,14,15,16,17,18,19,20,21],⟨none,.store 1 37 35,none,[22,19,21,0,1,2,3,4,5,6,7,8,9,10,11,12,13,14,15,16,17,18,19,20,21]⟩] [] true)) (rg [om 14 10,oq 15 (Bi .add 14 (ci 1)),om 10 15])))) 
def tf400:TFunc:=⟨5,38,[],false,tc400,[0]⟩
def yJ (a1:Int) (a2:Int) (a3:Int) (x1:(Int×LI)):Option (LR (Int×LI) LI) :=
 br (decide (x1.1<a3))
 (ck (decide (0<=wi (a2+x1.1)∧wi (a2+x1.1)<(x1.2.length:Int))) <|
 bno ((x1.2)[(Int.toNat (wi (a2+x1.1)))]?) fun y2 =>
 ck (decide (0<=wi (a1+x1.1)∧wi (a1+x1.1)<(x1.2.length:Int))) <|
 bno ((x1.2)[(Int.toNat (wi (a1+x1.1)))]?) fun y3 =>
 ck (decide (0<=wi (a1+x1.1)∧wi (a1+x1.1)<(x1.2.length:Int))) <|
 bno ((x1.2)[(Int.toNat (wi (a1+x1.1)))]?) fun y4 =>
 ck (decide (0<=wi (a2+x1.1)∧wi (a2+x1.1)<((List.length (List.set x1.2 (Int.toNat (wi (a1+x1.1))) y2):Nat):Int))) <|
 bno ((List.set x1.2 (Int.toNat (wi (a1+x1.1))) y2)[(Int.toNat (wi (a2+x1.1)))]?) fun y5 =>
 nxO (some (wi (x1.1+(1:Int)),List.set (List.set x1.2 (Int.toNat (wi (a1+x1.1))) y2) (Int.toNat (wi (a2+x1.1))) y3)))
 (dnO (some (x1.1,x1.2)))
def zhD (a0:LI) (a1:Int) (a2:Int) (a3:Int) (a4:(Int×LI×Int)):Option LI :=
 lp (yJ a1 a2 a3) ((0:Int),a0) fun x6 =>
 some x6.2
def s400_394 (a0:(List Int)) (a1:Int) (a2:Int) (a3:Int) (a4:(Int×(List Int)×Int)):tf400.runM [] [(.own .int),.int,.int,.int,(.fnc 394 [(.bx .int),(.bx (.sl .int)),(.bx .int)])] (.own .int) (a0,a1,a2,a3,a4)=zhD a0 a1 a2 a3 a4:=by kernel_rfl
def ww:=zhD
def zdI:CSpec:=⟨400,[(.own .int),.int,.int,.int,(.fnc 394 [(.bx .int),(.bx (.sl .int)),(.bx .int)])],(.own .int),fun x=>ww x.1 x.2.1 x.2.2.1 x.2.2.2.1 x.2.2.2.2,false,[0]⟩
def r400_394 {S:Seat} (h:Ok1 S 400 tf400):Rt S zdI:=fun x y hy =>
 Ok1.soundM h (C:=[]) zK.nil rfl rfl rfl rfl rfl rfl ((s400_394 x.1 x.2.1 x.2.2.1 x.2.2.2.1 x.2.2.2.2).trans hy)
def tc399:TCode:=.seq (rg [om 12 2,om 13 1,oq 14 (Bi .sub 12 13),om 10 14]) (.seq (rg [om 15 3,om 16 2,oq 17 (Bi .sub 15 16),om 11 17]) (.seq (.loop ⟨[.slot 10 .int,.slot 11 .int,.rowH 1000 .int],[18,19,20,21,22,23,24,25,26,27,28,29,30,31,32,33,34,35,36,37,38,39,40,41,42,43,44,45,46,47,48,49],[],[]⟩ 0 (.seq (.seq (rg [om 18 10,om 19 11,oq 20 (Bi .neq 18 19)]) (.cond 20 .skip (.exit 0))) (.block 1 (.seq (rg [om 21 10,om 22 11,oq 23 (Bi .gtr 21 22)]) (.condJ ⟨[.slot 10 .int,.slot 11 .int,.rowH 1000 .int],[24,25,26,27,28,29,30,31,32,33,34,35,36,37,38,39,40,41,42,43,44,45,46,47,48,49],[],[]⟩ 23 (.seq (rg [om 24 0,om 25 2,om 26 10,oq 27 (Bi .sub 25 26),om 28 2,om 29 11,om 30 4,oq 31 (.call false [0] 400 [24,27,28,29,30])]) (rg [om 32 10,om 33 11,oq 34 (Bi .sub 32 33),om 10 34])) (.seq (rg [om 35 0,om 36 2,om 37 10,oq 38 (Bi .sub 36 37),om 39 2,om 40 11,oq 41 (Bi .add 39 40),om 42 10,oq 43 (Bi .sub 41 42),om 44 10,om 45 4,oq 46 (.call false [0] 400 [35,38,43,44,45])]) (rg [om 47 11,om 48 10,oq 49 (Bi .sub 47 48),om 11 49]))))))) (rg [om 50 0,om 51 2,om 52 10,oq 53 (Bi .sub 51 52),om 54 2,om 55 10,om 56 4,oq 57 (.call false [0] 400 [50,53,54,55,56])]))) 
def tf399:TFunc:=⟨5,58,[],false,tc399,[0]⟩
def jc (a2:Int) (a4:(Int×LI×Int)) (x1:(Int×Int×LI)):Option (LR (Int×Int×LI) LI) :=
 br (decide (¬x1.1=x1.2.1))
 (jn (σ:=(Int×Int×(List Int))) (α:=(LR (Int×Int×(List Int)) (List Int))) (br (decide (x1.2.1<x1.1))
 (bno (F400_394 x1.2.2 (wi (a2-x1.1)) a2 x1.2.1 (a4.1,a4.2.1,a4.2.2)) fun y2 =>
 ck (decide (List.length y2=List.length x1.2.2)) <|
 zt (some (wi (x1.1-x1.2.1),x1.2.1,y2)))
 (bno (F400_394 x1.2.2 (wi (a2-x1.1)) (wi ((wi (a2+x1.2.1))-x1.1)) x1.1 (a4.1,a4.2.1,a4.2.2)) fun y3 =>
 ck (decide (List.length y3=List.length x1.2.2)) <|
 zt (some (x1.1,wi (x1.2.1-x1.1),y3)))) fun x4 =>
 nxO (some (x4.1,x4.2.1,x4.2.2)))
 (dnO (some (x1.1,x1.2.1,x1.2.2)))
def zhE (a0:LI) (a1:Int) (a2:Int) (a3:Int) (a4:(Int×LI×Int)):Option LI :=
 lp (jc F400_394 a2 a4) (wi (a2-a1),wi (a3-a2),a0) fun x5 =>
 bno (F400_394 x5.2.2 (wi (a2-x5.1)) a2 x5.1 (a4.1,a4.2.1,a4.2.2)) fun y6 =>
 ck (decide (List.length y6=List.length x5.2.2)) <|
 some y6
def s399_394 (a0:(List Int)) (a1:Int) (a2:Int) (a3:Int) (a4:(Int×(List Int)×Int)):tf399.runM [⟨400,[(.own .int),.int,.int,.int,(.fnc 394 [(.bx .int),(.bx (.sl .int)),(.bx .int)])],(.own .int),fun x=>F400_394 x.1 x.2.1 x.2.2.1 x.2.2.2.1 x.2.2.2.2,false,[0]⟩] [(.own .int),.int,.int,.int,(.fnc 394 [(.bx .int),(.bx (.sl .int)),(.bx .int)])] (.own .int) (a0,a1,a2,a3,a4)=zhE F400_394 a0 a1 a2 a3 a4:=by kernel_rfl
def yl:=zhE ww
def lE:CSpec:=⟨399,[(.own .int),.int,.int,.int,(.fnc 394 [(.bx .int),(.bx (.sl .int)),(.bx .int)])],(.own .int),fun x=>yl x.1 x.2.1 x.2.2.1 x.2.2.2.1 x.2.2.2.2,false,[0]⟩
def r399_394 {S:Seat} (h:Ok1 S 399 tf399) (h400_394:Rt S zdI):Rt S lE:=fun x y hy =>
 Ok1.soundM h (C:=[zdI]) (zK.cons h400_394 zK.nil) rfl rfl rfl rfl rfl rfl ((s399_394 ww x.1 x.2.1 x.2.2.1 x.2.2.2.1 x.2.2.2.2).trans hy)
def tc397:TCode:=.seq (rg [om 10 1,oq 11 (Bi .add 10 (ci 1)),om 8 11]) (.loop ⟨[.slot 8 .int,.rowH 1000 .int],[9,12,13,14,15,16,17,18,19,20,21,22,23,24,25,26,27,28,29,30,31,32,33,34,35,36,37,38,39,40,41,42,43,44,45,46,47,48,49,50,51,52],[],[]⟩ 0 (.seq (.seq (rg [om 12 8,om 13 2,oq 14 (Bi .lss 12 13)]) (.cond 14 .skip (.exit 0))) (.seq (.block 1 (.seq (rg [om 17 8,om 9 17]) (.loop ⟨[.slot 9 .int,.rowH 1000 .int],[18,19,20,21,22,23,24,25,26,27,28,29,30,31,32,33,34,35,36,37,38,39,40,41,42,43,44,45,46,47,48,49,50,51,52],[],[]⟩ 2 (.seq (.seq (.regionJ ⟨[.slot 34 .bool],[18,19,20,21,22,23,24,25,26,27,28,29,30,31,32,33],[],[]⟩ [om 18 9,om 19 1,od 20 (Bi .gtr 18 19) [0,1],od 21 (.mov 20) [2],og 22 (.mov 3) 21 true [3],og 23 (.mov 0) 21 true [3],og 24 (.mov 9) 21 true [3],og 25 (.ia 1 23 24) 21 true [5,6,3],og 26 (Ld 25) 21 true [7,3],og 27 (.mov 0) 21 true [3],og 28 (.mov 9) 21 true [3],og 29 (Bi .sub 28 (ci 1)) 21 true [10,3],og 30 (.ia 1 27 29) 21 true [9,11,3],og 31 (Ld 30) 21 true [12,3],og 32 (.calld false 22 [26,31]) 21 true [4,8,13,3,3],og 33 (Bi .lss 32 (ci 0)) 21 true [14,3],od 34 (.pick 21 33 (cb false)) [3,15]] [] true) (.cond 34 .skip (.exit 2))) (.seq (.block 3 (.region [om 37 0,om 38 9,om 39 0,om 40 9,od 41 (Bi .sub 40 (ci 1)) [3],om 42 0,om 43 9,od 44 (Bi .sub 43 (ci 1)) [6],od 45 (.ia 1 42 44) [5,7],od 46 (Ld 45) [8],om 47 0,om 48 9,od 49 (.ia 1 47 48) [10,11],od 50 (Ld 49) [12],od 51 (.ia 1 37 38) [0,1,0,1,5,6,7,8,9,13],⟨none,.store 1 51 46,none,[14,9,0,1,5,6,7,8,9,13]⟩,od 52 (.ia 1 39 41) [2,4,0,1,2,3,4,5,6,7,8,9,10,11,12,13,14,15],⟨none,.store 1 52 50,none,[16,13,15,0,1,2,3,4,5,6,7,8,9,10,11,12,13,14,15]⟩] [] true)) (rg [om 35 9,oq 36 (Bi .sub 35 (ci 1)),om 9 36])))))) (rg [om 15 8,oq 16 (Bi .add 15 (ci 1)),om 8 16])))) 
def tf397:TFunc:=⟨4,53,[],false,tc397,[0]⟩
def yP (a1:Int) (a3:(Int×LI×Int)) (x2:(Int×LI)):Option (LR (Int×LI) (LR (Int×LI) LI)) :=
 jn (σ:=Bool) (α:=(LR (Int×(List Int)) (LR (Int×(List Int)) (List Int)))) (br (decide (a1<x2.1))
 (ck (decide (0<=x2.1∧x2.1<(x2.2.length:Int))) <|
 bno ((x2.2)[(Int.toNat x2.1)]?) fun y3 =>
 ck (decide (0<=wi (x2.1-(1:Int))∧wi (x2.1-(1:Int))<(x2.2.length:Int))) <|
 bno ((x2.2)[(Int.toNat (wi (x2.1-(1:Int))))]?) fun y4 =>
 bno (F394 y3 y4 a3.1 a3.2.1 a3.2.2) fun y5 =>
 zt (some (decide (y5<(0:Int)))))
 (zt (some false))) fun x6 =>
 br x6
 (ck (decide (0<=wi (x2.1-(1:Int))∧wi (x2.1-(1:Int))<(x2.2.length:Int))) <|
 bno ((x2.2)[(Int.toNat (wi (x2.1-(1:Int))))]?) fun y7 =>
 ck (decide (0<=x2.1∧x2.1<(x2.2.length:Int))) <|
 bno ((x2.2)[(Int.toNat x2.1)]?) fun y8 =>
 ck (decide (0<=x2.1∧x2.1<(x2.2.length:Int))) <|
 bno ((x2.2)[(Int.toNat x2.1)]?) fun y9 =>
 ck (decide (0<=wi (x2.1-(1:Int))∧wi (x2.1-(1:Int))<((List.set x2.2 (Int.toNat x2.1) y7).length:Int))) <|
 bno ((List.set x2.2 (Int.toNat x2.1) y7)[(Int.toNat (wi (x2.1-(1:Int))))]?) fun db =>
 nxO (some (wi (x2.1-(1:Int)),List.set (List.set x2.2 (Int.toNat x2.1) y7) (Int.toNat (wi (x2.1-(1:Int)))) y8)))
 (dnO (some (x2.1,x2.2)))
def jG (a1:Int) (a2:Int) (a3:(Int×LI×Int)) (x1:(Int×LI)):Option (LR (Int×LI) LI) :=
 br (decide (x1.1<a2))
 (lp (yP F394 a1 a3) (x1.1,x1.2) fun bY =>
 nxO (some (wi (x1.1+(1:Int)),bY.2)))
 (dnO (some (x1.1,x1.2)))
def zdU (a0:LI) (a1:Int) (a2:Int) (a3:(Int×LI×Int)):Option LI :=
 lp (jG F394 a1 a2 a3) (wi (a1+(1:Int)),a0) fun bC =>
 some bC.2
def s397_394 (a0:(List Int)) (a1:Int) (a2:Int) (a3:(Int×(List Int)×Int)):tf397.runM [⟨394,[.int,.int,(.bx .int),(.bx (.sl .int)),(.bx .int)],.int,fun x=>F394 x.1 x.2.1 x.2.2.1 x.2.2.2.1 x.2.2.2.2,false,[]⟩] [(.own .int),.int,.int,(.fnc 394 [(.bx .int),(.bx (.sl .int)),(.bx .int)])] (.own .int) (a0,a1,a2,a3)=zdU F394 a0 a1 a2 a3:=by kernel_rfl
def ju:=zdU zck
def zdK:CSpec:=⟨397,[(.own .int),.int,.int,(.fnc 394 [(.bx .int),(.bx (.sl .int)),(.bx .int)])],(.own .int),fun x=>ju x.1 x.2.1 x.2.2.1 x.2.2.2,false,[0]⟩
def r397_394 {S:Seat} (h:Ok1 S 397 tf397) (fo:Rt S k394):Rt S zdK:=fun x y hy =>
 Ok1.soundM h (C:=[k394]) (zK.cons fo zK.nil) rfl rfl rfl rfl rfl rfl ((s397_394 zck x.1 x.2.1 x.2.2.1 x.2.2.2).trans hy)
def tc398:TCode:=.seq (.seq (rg [om 25 2,om 26 1,oq 27 (Bi .sub 25 26),oq 28 (Bi .eql 27 (ci 1))]) (.cond 28 (.seq (rg [om 29 2,om 10 29]) (.seq (rg [om 30 3,om 11 30]) (.seq (.loop ⟨[.slot 10 .int,.slot 11 .int],[12,31,32,33,34,35,36,37,38,39,40,41,42,43,44,45,46,47,48,49,50,51,52,53],[],[]⟩ 0 (.seq (.seq (rg [om 31 10,om 32 11,oq 33 (Bi .lss 31 32)]) (.cond 33 .skip (.exit 0))) (.block 1 (.seq (rg [om 34 10,om 35 11,oq 36 (Bi .add 34 35),oq 37 (.cvi .u64 36),oq 38 (Bi .shr 37 (.c (.int .u64 1))),oq 39 (.cvi .i64 38),om 12 39]) (.seq (.region [om 40 4,om 41 0,om 42 12,od 43 (.ia 1 41 42) [1,2],od 44 (Ld 43) [3],om 45 0,om 46 1,od 47 (.ia 1 45 46) [5,6],od 48 (Ld 47) [7],od 49 (.calld false 40 [44,48]) [0,4,8],od 50 (Bi .lss 49 (ci 0)) [9]] [] true) (.condJ ⟨[.slot 10 .int,.slot 11 .int],[51,52,53],[],[]⟩ 50 (rg [om 51 12,oq 52 (Bi .add 51 (ci 1)),om 10 52]) (rg [om 53 12,om 11 53]))))))) (.seq (.seq (rg [om 54 1,om 13 54]) (.loop ⟨[.slot 13 .int,.rowH 1000 .int],[55,56,57,58,59,60,61,62,63,64,65,66,67,68,69,70,71,72,73,74,75,76],[],[]⟩ 2 (.seq (.seq (rg [om 55 13,om 56 10,oq 57 (Bi .sub 56 (ci 1)),oq 58 (Bi .lss 55 57)]) (.cond 58 .skip (.exit 2))) (.seq (.block 3 (.region [om 61 0,om 62 13,om 63 0,om 64 13,od 65 (Bi .add 64 (ci 1)) [3],om 66 0,om 67 13,od 68 (Bi .add 67 (ci 1)) [6],od 69 (.ia 1 66 68) [5,7],od 70 (Ld 69) [8],om 71 0,om 72 13,od 73 (.ia 1 71 72) [10,11],od 74 (Ld 73) [12],od 75 (.ia 1 61 62) [0,1,0,1,5,6,7,8,9,13],⟨none,.store 1 75 70,none,[14,9,0,1,5,6,7,8,9,13]⟩,od 76 (.ia 1 63 65) [2,4,0,1,2,3,4,5,6,7,8,9,10,11,12,13,14,15],⟨none,.store 1 76 74,none,[16,13,15,0,1,2,3,4,5,6,7,8,9,10,11,12,13,14,15]⟩] [] true)) (rg [om 59 13,oq 60 (Bi .add 59 (ci 1)),om 13 60]))))) .ret)))) .skip)) (.seq (.seq (rg [om 77 3,om 78 2,oq 79 (Bi .sub 77 78),oq 80 (Bi .eql 79 (ci 1))]) (.cond 80 (.seq (rg [om 81 1,om 14 81]) (.seq (rg [om 82 2,om 15 82]) (.seq (.loop ⟨[.slot 14 .int,.slot 15 .int],[16,83,84,85,86,87,88,89,90,91,92,93,94,95,96,97,98,99,100,101,102,103,104,105,106],[],[]⟩ 4 (.seq (.seq (rg [om 83 14,om 84 15,oq 85 (Bi .lss 83 84)]) (.cond 85 .skip (.exit 4))) (.block 5 (.seq (rg [om 86 14,om 87 15,oq 88 (Bi .add 86 87),oq 89 (.cvi .u64 88),oq 90 (Bi .shr 89 (.c (.int .u64 1))),oq 91 (.cvi .i64 90),om 16 91]) (.seq (.region [om 92 4,om 93 0,om 94 2,od 95 (.ia 1 93 94) [1,2],od 96 (Ld 95) [3],om 97 0,om 98 16,od 99 (.ia 1 97 98) [5,6],od 100 (Ld 99) [7],od 101 (.calld false 92 [96,100]) [0,4,8],od 102 (Bi .lss 101 (ci 0)) [9],od 103 (.un .not 102) [10]] [] true) (.condJ ⟨[.slot 14 .int,.slot 15 .int],[104,105,106],[],[]⟩ 103 (rg [om 104 16,oq 105 (Bi .add 104 (ci 1)),om 14 105]) (rg [om 106 16,om 15 106]))))))) (.seq (.seq (rg [om 107 2,om 17 107]) (.loop ⟨[.slot 17 .int,.rowH 1000 .int],[108,109,110,111,112,113,114,115,116,117,118,119,120,121,122,123,124,125,126,127,128],[],[]⟩ 6 (.seq (.seq (rg [om 108 17,om 109 14,oq 110 (Bi .gtr 108 109)]) (.cond 110 .skip (.exit 6))) (.seq (.block 7 (.region [om 113 0,om 114 17,om 115 0,om 116 17,od 117 (Bi .sub 116 (ci 1)) [3],om 118 0,om 119 17,od 120 (Bi .sub 119 (ci 1)) [6],od 121 (.ia 1 118 120) [5,7],od 122 (Ld 121) [8],om 123 0,om 124 17,od 125 (.ia 1 123 124) [10,11],od 126 (Ld 125) [12],od 127 (.ia 1 113 114) [0,1,0,1,5,6,7,8,9,13],⟨none,.store 1 127 122,none,[14,9,0,1,5,6,7,8,9,13]⟩,od 128 (.ia 1 115 117) [2,4,0,1,2,3,4,5,6,7,8,9,10,11,12,13,14,15],⟨none,.store 1 128 126,none,[16,13,15,0,1,2,3,4,5,6,7,8,9,10,11,12,13,14,15]⟩] [] true)) (rg [om 111 17,oq 112 (Bi .sub 111 (ci 1)),om 17 112]))))) .ret)))) .skip)) (.seq (rg [om 129 1,om 130 3,oq 131 (Bi .add 129 130),oq 132 (.cvi .u64 131),oq 133 (Bi .shr 132 (.c (.int .u64 1))),oq 134 (.cvi .i64 133),om 18 134]) (.seq (rg [om 135 18,om 136 2,oq 137 (Bi .add 135 136),om 19 137]) (.seq (rg [om 20 (ci 0),om 21 (ci 0)]) (.seq (.seq (rg [om 138 2,om 139 18,oq 140 (Bi .gtr 138 139)]) (.condJ ⟨[.slot 20 .int,.slot 21 .int],[141,142,143,144,145,146],[],[]⟩ 140 (.seq (rg [om 141 19,om 142 3,oq 143 (Bi .sub 141 142),om 20 143]) (rg [om 144 18,om 21 144])) (.seq (rg [om 145 1,om 20 145]) (rg [om 146 2,om 21 146])))) (.seq (rg [om 147 19,oq 148 (Bi .sub 147 (ci 1)),om 22 148]) (.seq (.loop ⟨[.slot 20 .int,.slot 21 .int],[23,149,150,151,152,153,154,155,156,157,158,159,160,161,162,163,164,165,166,167,168,169,170,171,172,173,174],[],[]⟩ 8 (.seq (.seq (rg [om 149 20,om 150 21,oq 151 (Bi .lss 149 150)]) (.cond 151 .skip (.exit 8))) (.block 9 (.seq (rg [om 152 20,om 153 21,oq 154 (Bi .add 152 153),oq 155 (.cvi .u64 154),oq 156 (Bi .shr 155 (.c (.int .u64 1))),oq 157 (.cvi .i64 156),om 23 157]) (.seq (.region [om 158 4,om 159 0,om 160 22,om 161 23,od 162 (Bi .sub 160 161) [2,3],od 163 (.ia 1 159 162) [1,4],od 164 (Ld 163) [5],om 165 0,om 166 23,od 167 (.ia 1 165 166) [7,8],od 168 (Ld 167) [9],od 169 (.calld false 158 [164,168]) [0,6,10],od 170 (Bi .lss 169 (ci 0)) [11],od 171 (.un .not 170) [12]] [] true) (.condJ ⟨[.slot 20 .int,.slot 21 .int],[172,173,174],[],[]⟩ 171 (rg [om 172 23,oq 173 (Bi .add 172 (ci 1)),om 20 173]) (rg [om 174 23,om 21 174]))))))) (.seq (rg [om 175 19,om 176 20,oq 177 (Bi .sub 175 176),om 24 177]) (.seq (.seq (.regionJ ⟨[.slot 185 .bool],[178,179,180,181,182,183,184],[],[]⟩ [om 178 20,om 179 2,oq 180 (Bi .lss 178 179),om 181 180,og 182 (.mov 2) 181 true [],og 183 (.mov 24) 181 true [],og 184 (Bi .lss 182 183) 181 true [],oq 185 (.pick 181 184 (cb false))] [] false) (.condJ ⟨[.rowH 1000 .int],[186,187,188,189,190,191],[],[]⟩ 185 (rg [om 186 0,om 187 20,om 188 2,om 189 24,om 190 4,oq 191 (.call false [0] 399 [186,187,188,189,190])]) .skip)) (.seq (.seq (.regionJ ⟨[.slot 199 .bool],[192,193,194,195,196,197,198],[],[]⟩ [om 192 1,om 193 20,oq 194 (Bi .lss 192 193),om 195 194,og 196 (.mov 20) 195 true [],og 197 (.mov 18) 195 true [],og 198 (Bi .lss 196 197) 195 true [],oq 199 (.pick 195 198 (cb false))] [] false) (.condJ ⟨[.rowH 1000 .int],[200,201,202,203,204,205],[],[]⟩ 199 (rg [om 200 0,om 201 1,om 202 20,om 203 18,om 204 4,oq 205 (.call false [0] 398 [200,201,202,203,204])]) .skip)) (.seq (.regionJ ⟨[.slot 213 .bool],[206,207,208,209,210,211,212],[],[]⟩ [om 206 18,om 207 24,oq 208 (Bi .lss 206 207),om 209 208,og 210 (.mov 24) 209 true [],og 211 (.mov 3) 209 true [],og 212 (Bi .lss 210 211) 209 true [],oq 213 (.pick 209 212 (cb false))] [] false) (.condJ ⟨[.rowH 1000 .int],[214,215,216,217,218,219],[],[]⟩ 213 (rg [om 214 0,om 215 18,om 216 24,om 217 3,om 218 4,oq 219 (.call false [0] 398 [214,215,216,217,218])]) .skip)))))))))))) 
def tf398:TFunc:=⟨5,220,[],false,tc398,[0]⟩
def yO (a0:LI) (a1:Int) (a4:(Int×LI×Int)) (x1:(Int×Int)):Option (LR (Int×Int) LI) :=
 br (decide (x1.1<x1.2))
 (ck (decide (0<=wi ((IntKind.wrap .u64 (wi (x1.1+x1.2)))/2)∧wi ((IntKind.wrap .u64 (wi (x1.1+x1.2)))/2)<(a0.length:Int))) <|
 bno ((a0)[(Int.toNat (wi ((IntKind.wrap .u64 (wi (x1.1+x1.2)))/2)))]?) fun y2 =>
 ck (decide (0<=a1∧a1<(a0.length:Int))) <|
 bno ((a0)[(Int.toNat a1)]?) fun y3 =>
 bno (F394 y2 y3 a4.1 a4.2.1 a4.2.2) fun y4 =>
 jn (σ:=(Int×Int)) (α:=(LR (Int×Int) (List Int))) (br (decide (y4<(0:Int)))
 (zt (some (wi ((wi ((IntKind.wrap .u64 (wi (x1.1+x1.2)))/2))+(1:Int)),x1.2)))
 (zt (some (x1.1,wi ((IntKind.wrap .u64 (wi (x1.1+x1.2)))/2))))) fun x5 =>
 nxO (some (x5.1,x5.2)))
 (dnO (some (x1.1,x1.2)))
def yN (x6:(Int×Int)) (x7:(Int×LI)):Option (LR (Int×LI) LI) :=
 br (decide (x7.1<(wi (x6.1-(1:Int)))))
 (ck (decide (0<=wi (x7.1+(1:Int))∧wi (x7.1+(1:Int))<(x7.2.length:Int))) <|
 bno ((x7.2)[(Int.toNat (wi (x7.1+(1:Int))))]?) fun y8 =>
 ck (decide (0<=x7.1∧x7.1<(x7.2.length:Int))) <|
 bno ((x7.2)[(Int.toNat x7.1)]?) fun y9 =>
 ck (decide (0<=x7.1∧x7.1<(x7.2.length:Int))) <|
 bno ((x7.2)[(Int.toNat x7.1)]?) fun db =>
 ck (decide (0<=wi (x7.1+(1:Int))∧wi (x7.1+(1:Int))<((List.set x7.2 (Int.toNat x7.1) y8).length:Int))) <|
 bno ((List.set x7.2 (Int.toNat x7.1) y8)[(Int.toNat (wi (x7.1+(1:Int))))]?) fun cA =>
 nxO (some (wi (x7.1+(1:Int)),List.set (List.set x7.2 (Int.toNat x7.1) y8) (Int.toNat (wi (x7.1+(1:Int)))) y9)))
 (dnO (some (x7.1,x7.2)))
def yM (a0:LI) (a2:Int) (a4:(Int×LI×Int)) (bV:(Int×Int)):Option (LR (Int×Int) LI) :=
 br (decide (bV.1<bV.2))
 (ck (decide (0<=a2∧a2<(a0.length:Int))) <|
 bno ((a0)[(Int.toNat a2)]?) fun cM =>
 ck (decide (0<=wi ((IntKind.wrap .u64 (wi (bV.1+bV.2)))/2)∧wi ((IntKind.wrap .u64 (wi (bV.1+bV.2)))/2)<(a0.length:Int))) <|
 bno ((a0)[(Int.toNat (wi ((IntKind.wrap .u64 (wi (bV.1+bV.2)))/2)))]?) fun fq =>
 bno (F394 cM fq a4.1 a4.2.1 a4.2.2) fun lI =>
 jn (σ:=(Int×Int)) (α:=(LR (Int×Int) (List Int))) (br (!(decide (lI<(0:Int))))
 (zt (some (wi ((wi ((IntKind.wrap .u64 (wi (bV.1+bV.2)))/2))+(1:Int)),bV.2)))
 (zt (some (bV.1,wi ((IntKind.wrap .u64 (wi (bV.1+bV.2)))/2))))) fun lJ =>
 nxO (some (lJ.1,lJ.2)))
 (dnO (some (bV.1,bV.2)))
def yL (nq:(Int×Int)) (bF:(Int×LI)):Option (LR (Int×LI) LI) :=
 br (decide (nq.1<bF.1))
 (ck (decide (0<=wi (bF.1-(1:Int))∧wi (bF.1-(1:Int))<(bF.2.length:Int))) <|
 bno ((bF.2)[(Int.toNat (wi (bF.1-(1:Int))))]?) fun lH =>
 ck (decide (0<=bF.1∧bF.1<(bF.2.length:Int))) <|
 bno ((bF.2)[(Int.toNat bF.1)]?) fun oB =>
 ck (decide (0<=bF.1∧bF.1<(bF.2.length:Int))) <|
 bno ((bF.2)[(Int.toNat bF.1)]?) fun y22 =>
 ck (decide (0<=wi (bF.1-(1:Int))∧wi (bF.1-(1:Int))<((List.set bF.2 (Int.toNat bF.1) lH).length:Int))) <|
 bno ((List.set bF.2 (Int.toNat bF.1) lH)[(Int.toNat (wi (bF.1-(1:Int))))]?) fun y23 =>
 nxO (some (wi (bF.1-(1:Int)),List.set (List.set bF.2 (Int.toNat bF.1) lH) (Int.toNat (wi (bF.1-(1:Int)))) oB)))
 (dnO (some (bF.1,bF.2)))
def yK (a0:LI) (a1:Int) (a2:Int) (a3:Int) (a4:(Int×LI×Int)) (cw:(Int×Int)):Option (LR (Int×Int) LI) :=
 br (decide (cw.1<cw.2))
 (ck (decide (0<=wi ((wi ((wi ((wi ((IntKind.wrap .u64 (wi (a1+a3)))/2))+a2))-(1:Int)))-(wi ((IntKind.wrap .u64 (wi (cw.1+cw.2)))/2)))∧wi ((wi ((wi ((wi ((IntKind.wrap .u64 (wi (a1+a3)))/2))+a2))-(1:Int)))-(wi ((IntKind.wrap .u64 (wi (cw.1+cw.2)))/2)))<(a0.length:Int))) <|
 bno ((a0)[(Int.toNat (wi ((wi ((wi ((wi ((IntKind.wrap .u64 (wi (a1+a3)))/2))+a2))-(1:Int)))-(wi ((IntKind.wrap .u64 (wi (cw.1+cw.2)))/2)))))]?) fun y27 =>
 ck (decide (0<=wi ((IntKind.wrap .u64 (wi (cw.1+cw.2)))/2)∧wi ((IntKind.wrap .u64 (wi (cw.1+cw.2)))/2)<(a0.length:Int))) <|
 bno ((a0)[(Int.toNat (wi ((IntKind.wrap .u64 (wi (cw.1+cw.2)))/2)))]?) fun y28 =>
 bno (F394 y27 y28 a4.1 a4.2.1 a4.2.2) fun oA =>
 jn (σ:=(Int×Int)) (α:=(LR (Int×Int) (List Int))) (br (!(decide (oA<(0:Int))))
 (zt (some (wi ((wi ((IntKind.wrap .u64 (wi (cw.1+cw.2)))/2))+(1:Int)),cw.2)))
 (zt (some (cw.1,wi ((IntKind.wrap .u64 (wi (cw.1+cw.2)))/2))))) fun tc =>
 nxO (some (tc.1,tc.2)))
 (dnO (some (cw.1,cw.2)))
def wu (a0:LI) (a1:Int) (a2:Int) (a3:Int) (a4:(Int×LI×Int)):Option LI :=
 br (decide ((wi (a2-a1))=(1:Int)))
 (lp (yO F394 a0 a1 a4) (a2,a3) fun x6 =>
 lp (yN x6) (a1,a0) fun bC =>
 some bC.2)
 (br (decide ((wi (a3-a2))=(1:Int)))
 (lp (yM F394 a0 a2 a4) (a1,a2) fun nq =>
 lp (yL nq) (a2,a0) fun oH =>
 some oH.2)
 (jn (σ:=(Int×Int)) (α:=(List Int)) (br (decide ((wi ((IntKind.wrap .u64 (wi (a1+a3)))/2))<a2))
 (zt (some (wi ((wi ((wi ((IntKind.wrap .u64 (wi (a1+a3)))/2))+a2))-a3),wi ((IntKind.wrap .u64 (wi (a1+a3)))/2))))
 (zt (some (a1,a2)))) fun nn =>
 lp (yK F394 a0 a1 a2 a3 a4) (nn.1,nn.2) fun fZ =>
 jn (σ:=Bool) (α:=(List Int)) (br (decide (fZ.1<a2))
 (zt (some (decide (a2<(wi ((wi ((wi ((IntKind.wrap .u64 (wi (a1+a3)))/2))+a2))-fZ.1))))))
 (zt (some false))) fun oG =>
 jn (σ:=(List Int)) (α:=(List Int)) (br oG
 (bno (F399_394 a0 fZ.1 a2 (wi ((wi ((wi ((IntKind.wrap .u64 (wi (a1+a3)))/2))+a2))-fZ.1)) (a4.1,a4.2.1,a4.2.2)) fun lG =>
 ck (decide (List.length lG=List.length a0)) <|
 zt (some lG))
 (zt (some a0))) fun oF =>
 jn (σ:=Bool) (α:=(List Int)) (br (decide (a1<fZ.1))
 (zt (some (decide (fZ.1<(wi ((IntKind.wrap .u64 (wi (a1+a3)))/2))))))
 (zt (some false))) fun oE =>
 jn (σ:=(List Int)) (α:=(List Int)) (br oE
 (bno (F398_394 oF a1 fZ.1 (wi ((IntKind.wrap .u64 (wi (a1+a3)))/2)) (a4.1,a4.2.1,a4.2.2)) fun lF =>
 ck (decide (List.length lF=List.length oF)) <|
 zt (some lF))
 (zt (some oF))) fun oD =>
 jn (σ:=Bool) (α:=(List Int)) (br (decide ((wi ((IntKind.wrap .u64 (wi (a1+a3)))/2))<(wi ((wi ((wi ((IntKind.wrap .u64 (wi (a1+a3)))/2))+a2))-fZ.1))))
 (zt (some (decide ((wi ((wi ((wi ((IntKind.wrap .u64 (wi (a1+a3)))/2))+a2))-fZ.1))<a3))))
 (zt (some false))) fun x38 =>
 jn (σ:=(List Int)) (α:=(List Int)) (br x38
 (bno (F398_394 oD (wi ((IntKind.wrap .u64 (wi (a1+a3)))/2)) (wi ((wi ((wi ((IntKind.wrap .u64 (wi (a1+a3)))/2))+a2))-fZ.1)) a3 (a4.1,a4.2.1,a4.2.2)) fun tb =>
 ck (decide (List.length tb=List.length oD)) <|
 zt (some tb))
 (zt (some oD))) fun x40 =>
 some x40))
def s398_394 (a0:(List Int)) (a1:Int) (a2:Int) (a3:Int) (a4:(Int×(List Int)×Int)):tf398.runM [⟨394,[.int,.int,(.bx .int),(.bx (.sl .int)),(.bx .int)],.int,fun x=>F394 x.1 x.2.1 x.2.2.1 x.2.2.2.1 x.2.2.2.2,false,[]⟩,
 ⟨398,[(.own .int),.int,.int,.int,(.fnc 394 [(.bx .int),(.bx (.sl .int)),(.bx .int)])],(.own .int),fun x=>F398_394 x.1 x.2.1 x.2.2.1 x.2.2.2.1 x.2.2.2.2,false,[0]⟩,
 ⟨399,[(.own .int),.int,.int,.int,(.fnc 394 [(.bx .int),(.bx (.sl .int)),(.bx .int)])],(.own .int),fun x=>F399_394 x.1 x.2.1 x.2.2.1 x.2.2.2.1 x.2.2.2.2,false,[0]⟩] [(.own .int),.int,.int,.int,(.fnc 394 [(.bx .int),(.bx (.sl .int)),(.bx .int)])] (.own .int) (a0,a1,a2,a3,a4)=wu F394 F398_394 F399_394 a0 a1 a2 a3 a4:=by kernel_rfl
def qW:Nat->((List Int))->(Int)->(Int)->(Int)->((Int×(List Int)×Int))->Option (List Int)
 | 0=>fun _ _ _ _ _=>none
 | i+1=>fun a0 a1 a2 a3 a4=>wu zck (qW i) yl a0 a1 a2 a3 a4
def ziG (i:Nat):CSpec:=⟨398,[(.own .int),.int,.int,.int,(.fnc 394 [(.bx .int),(.bx (.sl .int)),(.bx .int)])],(.own .int),fun x=>qW i x.1 x.2.1 x.2.2.1 x.2.2.2.1 x.2.2.2.2,false,[0]⟩
def zii {S:Seat} (h:Ok1 S 398 tf398) (fo:Rt S k394) (h399_394:Rt S lE):∀i,Rt S (ziG i)
 | 0=>fun x y hy=>(by cases hy)
 | i+1=>fun x y hy =>
  have h398_394:=zii h fo h399_394 i
  Ok1.soundM h (C:=[k394,(ziG i),lE]) (zK.cons fo (zK.cons h398_394 (zK.cons h399_394 zK.nil))) rfl rfl rfl rfl rfl rfl ((s398_394 zck (qW i) yl x.1 x.2.1 x.2.2.1 x.2.2.2.1 x.2.2.2.2).trans hy)
def qZ (a0:(List Int)) (a1:Int) (a2:Int) (a3:Int) (a4:(Int×(List Int)×Int)):Option (List Int):=qW ((Int.toNat (a3-a1))+1) a0 a1 a2 a3 a4
def zdJ:CSpec:=⟨398,[(.own .int),.int,.int,.int,(.fnc 394 [(.bx .int),(.bx (.sl .int)),(.bx .int)])],(.own .int),fun x=>qZ x.1 x.2.1 x.2.2.1 x.2.2.2.1 x.2.2.2.2,false,[0]⟩
def r398_394 {S:Seat} (h:Ok1 S 398 tf398) (fo:Rt S k394) (h399_394:Rt S lE):Rt S zdJ:=fun x y hy=>zii h fo h399_394 ((Int.toNat (x.2.2.2.1-x.2.1))+1) x y hy
def tc396:TCode:=.seq (rg [om 6 (ci 20)]) (.seq (rg [om 10 6,om 7 (ci 0),om 8 10]) (.seq (.loop ⟨[.slot 7 .int,.slot 8 .int,.rowH 1000 .int],[11,12,13,14,15,16,17,18,19,20,21,22],[],[]⟩ 0 (.seq (.seq (rg [om 11 8,om 12 1,oq 13 (Bi .leq 11 12)]) (.cond 13 .skip (.exit 0))) (.block 1 (.seq (rg [om 14 0,om 15 7,om 16 8,om 17 2,oq 18 (.call false [0] 397 [14,15,16,17])]) (.seq (rg [om 19 8,om 7 19]) (rg [om 20 8,om 21 6,oq 22 (Bi .add 20 21),om 8 22])))))) (.seq (rg [om 23 0,om 24 7,om 25 1,om 26 2,oq 27 (.call false [0] 397 [23,24,25,26])]) (.loop ⟨[.slot 6 .int,.rowH 1000 .int],[7,8,9,28,29,30,31,32,33,34,35,36,37,38,39,40,41,42,43,44,45,46,47,48,49,50,51,52,53,54,55,56,57,58,59,60,61,62],[],[]⟩ 2 (.seq (.seq (rg [om 28 6,om 29 1,oq 30 (Bi .lss 28 29)]) (.cond 30 .skip (.exit 2))) (.block 3 (.seq (rg [om 31 6,oq 32 (Bi .mul (ci 2) 31),om 7 (ci 0),om 8 32]) (.seq (.loop ⟨[.slot 7 .int,.slot 8 .int,.rowH 1000 .int],[33,34,35,36,37,38,39,40,41,42,43,44,45,46,47,48],[],[]⟩ 4 (.seq (.seq (rg [om 33 8,om 34 1,oq 35 (Bi .leq 33 34)]) (.cond 35 .skip (.exit 4))) (.block 5 (.seq (rg [om 36 0,om 37 7,om 38 7,om 39 6,oq 40 (Bi .add 38 39),om 41 8,om 42 2,oq 43 (.call false [0] 398 [36,37,40,41,42])]) (.seq (rg [om 44 8,om 7 44]) (rg [om 45 8,om 46 6,oq 47 (Bi .mul (ci 2) 46),oq 48 (Bi .add 45 47),om 8 48])))))) (.seq (.seq (rg [om 49 7,om 50 6,oq 51 (Bi .add 49 50),om 9 51]) (.seq (rg [om 52 9,om 53 1,oq 54 (Bi .lss 52 53)]) (.condJ ⟨[.rowH 1000 .int],[55,56,57,58,59,60],[],[]⟩ 54 (rg [om 55 0,om 56 7,om 57 9,om 58 1,om 59 2,oq 60 (.call false [0] 398 [55,56,57,58,59])]) .skip))) (rg [om 61 6,oq 62 (Bi .mul 61 (ci 2)),om 6 62])))))))))) 
def tf396:TFunc:=⟨3,63,[],false,tc396,[0]⟩
def jH (a1:Int) (a2:(Int×LI×Int)) (x1:(Int×Int×LI)):Option (LR (Int×Int×LI) LI) :=
 br (decide (x1.2.1<=a1))
 (bno (F397_394 x1.2.2 x1.1 x1.2.1 (a2.1,a2.2.1,a2.2.2)) fun y2 =>
 ck (decide (List.length y2=List.length x1.2.2)) <|
 nxO (some (x1.2.1,wi (x1.2.1+(20:Int)),y2)))
 (dnO (some (x1.1,x1.2.1,x1.2.2)))
def yQ (a1:Int) (a2:(Int×LI×Int)) (x5:(Int×LI)) (x6:(Int×Int×LI)):Option (LR (Int×Int×LI) (LR (Int×LI) LI)) :=
 br (decide (x6.2.1<=a1))
 (bno (F398_394 x6.2.2 x6.1 (wi (x6.1+x5.1)) x6.2.1 (a2.1,a2.2.1,a2.2.2)) fun y7 =>
 ck (decide (List.length y7=List.length x6.2.2)) <|
 nxO (some (x6.2.1,wi (x6.2.1+(wi ((2:Int)*x5.1))),y7)))
 (dnO (some (x6.1,x6.2.1,x6.2.2)))
def jd (a1:Int) (a2:(Int×LI×Int)) (x5:(Int×LI)):Option (LR (Int×LI) LI) :=
 br (decide (x5.1<a1))
 (lp (yQ F398_394 a1 a2 x5) ((0:Int),wi ((2:Int)*x5.1),x5.2) fun x8 =>
 jn (σ:=(List Int)) (α:=(LR (Int×(List Int)) (List Int))) (br (decide ((wi (x8.1+x5.1))<a1))
 (bno (F398_394 x8.2.2 x8.1 (wi (x8.1+x5.1)) a1 (a2.1,a2.2.1,a2.2.2)) fun y9 =>
 ck (decide (List.length y9=List.length x8.2.2)) <|
 zt (some y9))
 (zt (some x8.2.2))) fun bn =>
 nxO (some (wi (x5.1*(2:Int)),bn)))
 (dnO (some (x5.1,x5.2)))
def zhF (a0:LI) (a1:Int) (a2:(Int×LI×Int)):Option LI :=
 lp (jH F397_394 a1 a2) ((0:Int),(20:Int),a0) fun x3 =>
 bno (F397_394 x3.2.2 x3.1 a1 (a2.1,a2.2.1,a2.2.2)) fun y4 =>
 ck (decide (List.length y4=List.length x3.2.2)) <|
 lp (jd F398_394 a1 a2) ((20:Int),y4) fun bY =>
 some bY.2
def s396_394 (a0:(List Int)) (a1:Int) (a2:(Int×(List Int)×Int)):tf396.runM [⟨397,[(.own .int),.int,.int,(.fnc 394 [(.bx .int),(.bx (.sl .int)),(.bx .int)])],(.own .int),fun x=>F397_394 x.1 x.2.1 x.2.2.1 x.2.2.2,false,[0]⟩,
 ⟨398,[(.own .int),.int,.int,.int,(.fnc 394 [(.bx .int),(.bx (.sl .int)),(.bx .int)])],(.own .int),fun x=>F398_394 x.1 x.2.1 x.2.2.1 x.2.2.2.1 x.2.2.2.2,false,[0]⟩] [(.own .int),.int,(.fnc 394 [(.bx .int),(.bx (.sl .int)),(.bx .int)])] (.own .int) (a0,a1,a2)=zhF F397_394 F398_394 a0 a1 a2:=by kernel_rfl
def zcg:=zhF ju qZ
def zdL:CSpec:=⟨396,[(.own .int),.int,(.fnc 394 [(.bx .int),(.bx (.sl .int)),(.bx .int)])],(.own .int),fun x=>zcg x.1 x.2.1 x.2.2,false,[0]⟩
def r396_394 {S:Seat} (h:Ok1 S 396 tf396) (h397_394:Rt S zdK) (h398_394:Rt S zdJ):Rt S zdL:=fun x y hy =>
 Ok1.soundM h (C:=[zdK,zdJ]) (zK.cons h397_394 (zK.cons h398_394 zK.nil)) rfl rfl rfl rfl rfl rfl ((s396_394 ju qZ x.1 x.2.1 x.2.2).trans hy)
def tc393:TCode:=rg [om 4 0,om 5 0,oq 6 (Ln 5),om 7 1,oq 8 (.call false [0] 396 [4,6,7])] 
def tf393:TFunc:=⟨2,9,[],false,tc393,[0]⟩
def zhG (a0:LI) (a1:(Int×LI×Int)):Option LI :=
 bno (F396_394 a0 (a0.length:Int) (a1.1,a1.2.1,a1.2.2)) fun y1 =>
 ck (decide (List.length y1=List.length a0)) <|
 some y1
def s393_394 (a0:(List Int)) (a1:(Int×(List Int)×Int)):tf393.runM [⟨396,[(.own .int),.int,(.fnc 394 [(.bx .int),(.bx (.sl .int)),(.bx .int)])],(.own .int),fun x=>F396_394 x.1 x.2.1 x.2.2,false,[0]⟩] [(.own .int),(.fnc 394 [(.bx .int),(.bx (.sl .int)),(.bx .int)])] (.own .int) (a0,a1)=zhG F396_394 a0 a1:=by kernel_rfl
def zdZ:=zhG zcg
def nZ:CSpec:=⟨393,[(.own .int),(.fnc 394 [(.bx .int),(.bx (.sl .int)),(.bx .int)])],(.own .int),fun x=>zdZ x.1 x.2,false,[0]⟩
def r393_394 {S:Seat} (h:Ok1 S 393 tf393) (h396_394:Rt S zdL):Rt S nZ:=fun x y hy =>
 Ok1.soundM h (C:=[zdL]) (zK.cons h396_394 zK.nil) rfl rfl rfl rfl rfl rfl ((s393_394 zcg x.1 x.2).trans hy)
def tc386:TCode:=.seq (rg [oq 2 (.box 0),oq 3 (.box 1),om 4 cn,om 5 cz]) (.seq (.seq (rg [oq 16 (Ld 2),oq 17 (Cl 392 [16]),oq 18 (.un .not 17)]) (.cond 18 (.seq (rg [oq 19 (.ifc 1 (ci 1)),om 4 cn,om 5 19]) .ret) .skip)) (.seq (.seq (.regionJ ⟨[.slot 27 .bool],[20,21,22,23,24,25,26],[],[]⟩ [oq 20 (Ld 3),oq 21 (Ln 20),oq 22 (Bi .eql 21 (ci 0)),om 23 22,og 24 (Ld 3) 23 false [],og 25 (Ln 24) 23 false [],og 26 (Bi .gtr 25 (ci 60)) 23 false [],oq 27 (.pick 23 (cb true) 26)] [] false) (.cond 27 (.seq (rg [oq 28 (.ifc 1 (ci 4)),om 4 cn,om 5 28]) .ret) .skip)) (.seq (rg [oq 6 (.alloc [.int .i64 0]),on (.store 1 6 (ci 0))]) (.seq (.seq (rg [oq 29 (Ld 3),oq 30 (Ln 29),om 31 (ci 0)]) (.loop ⟨[.slot 31 .int,.var 6 [.sh .int]],[8,32,33,34,35,36,37,39,40,41,42],[],[]⟩ 0 (.seq (rg [oq 32 (Bi .lss 31 30)]) (.seq (.cond 32 .skip (.exit 0)) (.seq (.block 1 (.seq (rg [oq 33 (.ia 1 29 31),oq 34 (Ld 33),om 8 34]) (.seq (.seq (rg [om 35 8,oq 36 (Cl 392 [35]),oq 37 (.un .not 36)]) (.cond 37 (.seq (rg [oq 38 (.ifc 1 (ci 1)),om 4 cn,om 5 38]) .ret) .skip)) (rg [oq 39 (Ld 6),om 40 8,oq 41 (Bi .add 39 40),on (.store 1 6 41)])))) (rg [oq 42 (Bi .add 31 (ci 1)),om 31 42])))))) (.seq (.seq (rg [oq 43 (Ld 6),oq 44 (Bi .eql 43 (ci 0))]) (.cond 44 (.seq (rg [oq 45 (.ifc 1 (ci 3)),om 4 cn,om 5 45]) .ret) .skip)) (.seq (rg [om 9 cn,om 10 cn]) (.seq (rg [oq 46 (Ld 2),om 11 46]) (.seq (.seq (rg [oq 47 (Ld 3),oq 48 (Ln 47),om 49 (ci 0)]) (.loop ⟨[.row 9 61 .int,.row 10 65 .int,.slot 11 .int,.slot 49 .int],[12,13,50,51,52,53,54,55,56,57,58,59,60,61,62,63,64,65,66,67,68,69,70,71,72],[60,64],[]⟩ 2 (.seq (rg [oq 50 (Bi .lss 49 48)]) (.seq (.cond 50 .skip (.exit 2)) (.seq (.block 3 (.seq (rg [om 51 49,oq 52 (.ia 1 47 49),oq 53 (Ld 52),om 12 51,om 13 53]) (.seq (rg [om 54 9,oq 55 (Ld 2),om 56 13,oq 57 (Bi .mul 55 56),oq 58 (Ld 6),oq 59 (Bi .quo 57 58),oq 60 (.bslice false 1 [.int .i64 0] 1 [(0,59)]),oq 61 (.app 1 54 60),om 62 10,om 63 12,oq 64 (.bslice false 1 [.int .i64 0] 1 [(0,63)]),oq 65 (.app 1 62 64),om 9 61,om 10 65]) (rg [om 66 11,om 67 9,om 68 12,oq 69 (.ia 1 67 68),oq 70 (Ld 69),oq 71 (Bi .sub 66 70),om 11 71])))) (rg [oq 72 (Bi .add 49 (ci 1)),om 49 72])))))) (.seq (rg [om 73 10,oq 74 (.mkfn 394 [2,3,6]),oq 75 (.call false [0] 393 [73,74])]) (.seq (.seq (rg [om 76 10,om 77 11,oq 78 (.slc 1 76 none (some 77)),oq 79 (Ln 78),om 80 (ci 0)]) (.loop ⟨[.slot 80 .int,.rowH 61 .int],[15,81,82,83,84,85,86,87,88,89,90],[],[]⟩ 4 (.seq (rg [oq 81 (Bi .lss 80 79)]) (.seq (.cond 81 .skip (.exit 4)) (.seq (.block 5 (.seq (rg [oq 82 (.ia 1 78 80),oq 83 (Ld 82),om 15 83]) (rg [om 84 9,om 85 15,oq 86 (.ia 1 84 85),oq 87 (Ld 86),oq 88 (Bi .add 87 (ci 1)),oq 89 (.ia 1 84 85),on (.store 1 89 88)]))) (rg [oq 90 (Bi .add 80 (ci 1)),om 80 90])))))) (.seq (rg [om 91 9,om 4 91,om 5 cz]) .ret))))))))))) 
def tf386:TFunc:=⟨2,92,[.tmp 4,.tmp 5],false,tc386,[]⟩
def zbB (a1:LI) (x3:(Int×Int)):Option (LR (Int×Int) (LI×Err)) :=
 br (decide (x3.1<(a1.length:Int)))
 (bno (zu a1 x3.1) fun y4 =>
 bno (F392 y4) fun y5 =>
 br (!y5)
 (yk (some (([]:List Int),Err.no (1:Int))))
 (nxO (some (wi (x3.1+(1:Int)),wi (x3.2+y4)))))
 (dnO (some (x3.1,x3.2)))
def zcV (a0:Int) (a1:LI) (x6:(Int×Int)) (x7:(LI×LI×Int×Int)):Option (LR (LI×LI×Int×Int) (LI×Err)) :=
 br (decide (x7.2.2.2<(a1.length:Int)))
 (bno (zu a1 x7.2.2.2) fun y8 =>
 ck (decide (¬x6.2=0)) <|
 ck (decide (List.length x7.1+List.length ([wi (Int.tdiv (wi (a0*y8)) x6.2)]:List Int)<=zC)) <|
 ck (decide (List.length x7.2.1+List.length ([x7.2.2.2]:List Int)<=zC)) <|
 ck (decide (0<=x7.2.2.2∧x7.2.2.2<((List.length (x7.1++([wi (Int.tdiv (wi (a0*y8)) x6.2)]:List Int)):Nat):Int))) <|
 bno ((x7.1++([wi (Int.tdiv (wi (a0*y8)) x6.2)]:List Int))[(Int.toNat x7.2.2.2)]?) fun y9 =>
 nxO (some (x7.1++([wi (Int.tdiv (wi (a0*y8)) x6.2)]:List Int),x7.2.1++([x7.2.2.2]:List Int),wi (x7.2.2.1-y9),wi (x7.2.2.2+(1:Int)))))
 (dnO (some (x7.1,x7.2.1,x7.2.2.1,x7.2.2.2)))
def zhH (bn:(LI×LI×Int×Int)) (cA:LI) (bC:(Int×LI)):Option (LR (Int×LI) (LI×Err)) :=
 br (decide (bC.1<(((Int.toNat bn.2.2.1-Int.toNat (0:Int)):Nat):Int)))
 (ck (decide (0<=bC.1∧bC.1<(((Int.toNat bn.2.2.1-Int.toNat (0:Int)):Nat):Int))) <|
 bno ((cA)[((Int.toNat (0:Int))+Int.toNat bC.1)]?) fun cj =>
 ck (decide (0<=cj∧cj<(bC.2.length:Int))) <|
 bno ((bC.2)[(Int.toNat cj)]?) fun cM =>
 ck (decide (0<=cj∧cj<(bC.2.length:Int))) <|
 bno ((bC.2)[(Int.toNat cj)]?) fun fq =>
 nxO (some (wi (bC.1+(1:Int)),List.set bC.2 (Int.toNat cj) (wi (cM+(1:Int))))))
 (dnO (some (bC.1,bC.2)))
def S386 (a0:Int) (a1:LI):Option (LI×Err) :=
 bno (F392 a0) fun y1 =>
 br (!y1)
 (some (([]:List Int),Err.no (1:Int)))
 (jn (σ:=Bool) (α:=((List Int)×Err)) (br (decide ((a1.length:Int)=(0:Int)))
 (zt (some true))
 (zt (some (decide ((60:Int)<(a1.length:Int)))))) fun x2 =>
 br x2
 (some (([]:List Int),Err.no (4:Int)))
 (lp (zbB F392 a1) ((0:Int),(0:Int)) fun x6 =>
 br (decide (x6.2=(0:Int)))
 (some (([]:List Int),Err.no (3:Int)))
 (lp (zcV a0 a1 x6) (([]:List Int),([]:List Int),a0,(0:Int)) fun bn =>
 bno (F393_394 bn.2.1 (a0,a1,x6.2)) fun cA =>
 ck (decide (List.length cA=List.length bn.2.1)) <|
 ck (decide (0<=(0:Int)∧(0:Int)<=bn.2.2.1∧bn.2.2.1<=(cA.length:Int))) <|
 lp (zhH bn cA) ((0:Int),bn.1) fun dk =>
 some (dk.2,Err.nil))))
def P386:=S386 P392 zdZ
def k386:CSpec:=⟨386,[.int,(.sl .int)],(.tp [(.sl .int),.err]),fun x=>P386 x.1 x.2,false,[]⟩
def r386 {S:Seat} (h:Ok1 S 386 tf386):RtF S [k392,nZ] (Rt S k386):=okr h
end
end Ab
