import Derived.Test.YtkaifdgeigdbhaaGreatDoorHD
import Derived.Test.YtkaifdgeigdbhaaGreatDoorC3
set_option linter.all false
noncomputable section
namespace Ab
open Go
section
set_option maxRecDepth 100000
section
variable (F150:Int->(Option Cell)) (F159:Int->(Option ByteArray)) (F160:Int->(Option Int)) (F161:ByteArray->Int->(Option (Int×Bool)))
end
end
section
set_option maxRecDepth 100000
section
variable (F245:LN->(Option ((List ByteArray)×Err))) (F297:(List ByteArray)->ByteArray->(Option Bool)) (F298_299:LN->(LC×(List ByteArray))->(Option Cell)) (F299:ByteArray->LC->(List ByteArray)->(Option Cell)) (F300:(List ByteArray)->ByteArray->(Option Int)) (F33:Cell->Cell->Int->(Option Cell)) (F34:Cell->Cell->(Option Cell)) (F35:Cell->Cell->(Option Cell)) (F52:Cell->(Option Err)) (F8:Int->(Option Cell))
end
end
section
set_option maxRecDepth 100000
section
variable (F146:Cell->Cell->Int->(Option Cell)) (F147:Cell->Cell->(Option Cell)) (F148:Cell->Cell->(Option Cell)) (F150:Int->(Option Cell)) (F291:(List ByteArray)->ByteArray->(Option Int)) (F292:LN->Int->(List ByteArray)->LC->(Option Cell)) (F97:ByteArray->(Option Int))
def tc240:TCode:=.seq (rg [om 2 (ci 0)]) (.seq (.seq (rg [om 7 0,oq 8 (.len false 7),oq 9 (.bin .int .eql 8 (ci 0))]) (.cond 9 (.seq (rg [om 2 (ci 5)]) (.ret)) (.skip))) (.seq (.seq (rg [om 10 0,oq 11 (.len false 10),oq 12 (.bin .int .gtr 11 (ci 30))]) (.cond 12 (.seq (rg [om 2 (ci 4)]) (.ret)) (.skip))) (.seq (rg [om 13 0,oq 14 (.len false 13),oq 15 (.mksl 1 [.int .i64 0] 14 14),om 3 15]) (.seq (.seq (rg [om 4 (ci 0)]) (.loop ⟨[.slot 4 .int,.rowH 15 .int],[5,16,17,18,19,20,21,22,23,24,25,26,27,28,29,30,31,32,33,34,35,36,37,38,39,40,41,42,43,44,45,46,47,48,49,50,51,52,53,54,55,56,57,58,59,60,61,62,63,64,65,66,67,68,69,70,71,72,73,74,75,76,77,78,79,80,81,82,83,84,85,86,87,88,89,90,91,92,93,94,95,96,97,98,99,100,101,102,103,104,105,106,107,108,109,110,111,112,113,114,115,116,117,118,119],[5],[]⟩ 0 (.seq (.seq (rg [om 16 4,om 17 0,oq 18 (.len false 17),oq 19 (.bin .int .lss 16 18)]) (.cond 19 (.skip) (.exit 0))) (.seq (.blockJ ⟨[.rowH 15 .int],[5,22,23,24,25,26,27,28,29,30,31,32,33,34,35,36,37,38,39,40,41,42,43,44,45,46,47,48,49,50,51,52,53,54,55,56,57,58,59,60,61,62,63,64,65,66,67,68,69,70,71,72,73,74,75,76,77,78,79,80,81,82,83,84,85,86,87,88,89,90,91,92,93,94,95,96,97,98,99,100,101,102,103,104,105,106,107,108,109,110,111,112,113,114,115,116,117,118,119],[5],[]⟩ 1 (.seq (rg [om 22 0,om 23 4,oq 24 (.ia 5 22 23),oq 25 (.load (some 5) 24),oq 5 (.alloc [.int .i64 0,.int .i64 0,.string ⟨#[]⟩,.int .i64 0,.int .i64 0]),on (.store 5 5 25)]) (.seq (.seq (.regionJ ⟨[.slot 33 .bool],[26,27,28,29,30,31,32],[],[]⟩ [oq 26 (.fa 0 5),oq 27 (.load none 26),oq 28 (.bin .int .lss 27 (ci 1)),om 29 28,og 30 (.fa 0 5) 29 false [],og 31 (.load none 30) 29 false [],og 32 (.bin .int .gtr 31 (ci 6)) 29 false [],oq 33 (.pick 29 (cb true) 32)] [] false) (.cond 33 (.seq (rg [om 2 (ci 1)]) (.ret)) (.skip))) (.seq (.seq (rg [oq 34 (.fa 0 5),oq 35 (.load none 34),oq 36 (.bin .int .eql 35 (ci 1))]) (.cond 36 (.seq (.seq (.regionJ ⟨[.slot 44 .bool],[37,38,39,40,41,42,43],[],[]⟩ [oq 37 (.fa 1 5),oq 38 (.load none 37),oq 39 (.bin .int .lss 38 (ci 0)),om 40 39,og 41 (.fa 1 5) 40 false [],og 42 (.load none 41) 40 false [],og 43 (.bin .int .gtr 42 (ci 1000000)) 40 false [],oq 44 (.pick 40 (cb true) 43)] [] false) (.cond 44 (.seq (rg [om 2 (ci 1)]) (.ret)) (.skip))) (.seq (.seq (.regionJ ⟨[.slot 57 .bool],[45,46,47,48,49,50,51,52,53,54,55,56],[],[]⟩ [oq 45 (.fa 2 5),oq 46 (.load none 45),oq 47 (.bin .str .neq 46 (cs ⟨#[]⟩)),om 48 47,og 49 (.fa 3 5) 48 false [],og 50 (.load none 49) 48 false [],og 51 (.bin .int .neq 50 (ci 0)) 48 false [],oq 52 (.pick 48 (cb true) 51),om 53 52,og 54 (.fa 4 5) 53 false [],og 55 (.load none 54) 53 false [],og 56 (.bin .int .neq 55 (ci 0)) 53 false [],oq 57 (.pick 53 (cb true) 56)] [] false) (.cond 57 (.seq (rg [om 2 (ci 3)]) (.ret)) (.skip))) (.exit 1))) (.skip))) (.seq (.seq (rg [oq 58 (.fa 0 5),oq 59 (.load none 58),oq 60 (.bin .int .eql 59 (ci 2))]) (.cond 60 (.seq (.seq (rg [oq 61 (.fa 2 5),oq 62 (.load none 61),oq 63 (.call false [] 97 [62]),oq 64 (.bin .int .neq 63 (ci 0))]) (.cond 64 (.seq (rg [om 2 (ci 2)]) (.ret)) (.skip))) (.seq (.seq (.regionJ ⟨[.slot 77 .bool],[65,66,67,68,69,70,71,72,73,74,75,76],[],[]⟩ [oq 65 (.fa 1 5),oq 66 (.load none 65),oq 67 (.bin .int .neq 66 (ci 0)),om 68 67,og 69 (.fa 3 5) 68 false [],og 70 (.load none 69) 68 false [],og 71 (.bin .int .neq 70 (ci 0)) 68 false [],oq 72 (.pick 68 (cb true) 71),om 73 72,og 74 (.fa 4 5) 73 false [],og 75 (.load none 74) 73 false [],og 76 (.bin .int .neq 75 (ci 0)) 73 false [],oq 77 (.pick 73 (cb true) 76)] [] false) (.cond 77 (.seq (rg [om 2 (ci 3)]) (.ret)) (.skip))) (.exit 1))) (.skip))) (.seq (.seq (.regionJ ⟨[.slot 97 .bool],[78,79,80,81,82,83,84,85,86,87,88,89,90,91,92,93,94,95,96],[],[]⟩ [oq 78 (.fa 3 5),oq 79 (.load none 78),oq 80 (.bin .int .lss 79 (ci 0)),om 81 80,og 82 (.fa 3 5) 81 false [],og 83 (.load none 82) 81 false [],og 84 (.mov 4) 81 false [],og 85 (.bin .int .geq 83 84) 81 false [],oq 86 (.pick 81 (cb true) 85),om 87 86,og 88 (.fa 4 5) 87 false [],og 89 (.load none 88) 87 false [],og 90 (.bin .int .lss 89 (ci 0)) 87 false [],oq 91 (.pick 87 (cb true) 90),om 92 91,og 93 (.fa 4 5) 92 false [],og 94 (.load none 93) 92 false [],og 95 (.mov 4) 92 false [],og 96 (.bin .int .geq 94 95) 92 false [],oq 97 (.pick 92 (cb true) 96)] [] false) (.cond 97 (.seq (rg [om 2 (ci 1)]) (.ret)) (.skip))) (.seq (.seq (.regionJ ⟨[.slot 105 .bool],[98,99,100,101,102,103,104],[],[]⟩ [oq 98 (.fa 1 5),oq 99 (.load none 98),oq 100 (.bin .int .neq 99 (ci 0)),om 101 100,og 102 (.fa 2 5) 101 false [],og 103 (.load none 102) 101 false [],og 104 (.bin .str .neq 103 (cs ⟨#[]⟩)) 101 false [],oq 105 (.pick 101 (cb true) 104)] [] false) (.cond 105 (.seq (rg [om 2 (ci 3)]) (.ret)) (.skip))) (.seq (rg [om 106 3,oq 107 (.fa 3 5),oq 108 (.load none 107),oq 109 (.ia 1 106 108),oq 110 (.load none 109),oq 111 (.bin .int .add 110 (ci 1)),oq 112 (.ia 1 106 108),on (.store 1 112 111)]) (rg [om 113 3,oq 114 (.fa 4 5),oq 115 (.load none 114),oq 116 (.ia 1 113 115),oq 117 (.load none 116),oq 118 (.bin .int .add 117 (ci 1)),oq 119 (.ia 1 113 115),on (.store 1 119 118)]))))))))) (rg [om 20 4,oq 21 (.bin .int .add 20 (ci 1)),om 4 21]))))) (.seq (.seq (rg [om 6 (ci 0)]) (.loop ⟨[.slot 6 .int],[120,121,122,123,124,125,126,127,128,129,130,131],[],[]⟩ 2 (.seq (.seq (rg [om 120 6,om 121 0,oq 122 (.len false 121),oq 123 (.bin .int .sub 122 (ci 1)),oq 124 (.bin .int .lss 120 123)]) (.cond 124 (.skip) (.exit 2))) (.seq (.block 3 (.seq (rg [om 127 3,om 128 6,oq 129 (.ia 1 127 128),oq 130 (.load none 129),oq 131 (.bin .int .neq 130 (ci 1))]) (.cond 131 (.seq (rg [om 2 (ci 3)]) (.ret)) (.skip)))) (rg [om 125 6,oq 126 (.bin .int .add 125 (ci 1)),om 6 126]))))) (.seq (rg [om 2 (ci 0)]) (.ret))))))) 
def tf240:TFunc:=⟨1,132,[.tmp 2],false,tc240,[]⟩
def lO (a0:LN) (x1:(Int×LI)):Option (LR (Int×LI) Int) :=
 br (decide (x1.1 < (a0.length:Int)))
 (jn (σ:=(List Int)) (α:=(LR (Int×(List Int)) Int)) (bno (zo a0 x1.1) fun y2 =>
 jn (σ:=Bool) (α:=(Sum (List Int) (LR (Int×(List Int)) Int))) (br (decide ((Node.op y2) < (1:Int)))
 (zq (some true))
 (zq (some (decide ((6:Int) < (Node.op y2)))))) fun x3 =>
 br x3
 (zft (qP (some (1:Int))))
 (br (decide ((Node.op y2)=(1:Int)))
 (jn (σ:=Bool) (α:=(Sum (List Int) (LR (Int×(List Int)) Int))) (br (decide ((Node.n y2) < (0:Int)))
 (zq (some true))
 (zq (some (decide ((1000000:Int) < (Node.n y2)))))) fun x4 =>
 br x4
 (zft (qP (some (1:Int))))
 (jn (σ:=Bool) (α:=(Sum (List Int) (LR (Int×(List Int)) Int))) (br (decide (¬ (Node.name y2)=(⟨#[]⟩:ByteArray)))
 (zq (some true))
 (br (decide (¬ (Node.left y2)=(0:Int)))
 (zq (some true))
 (zq (some (decide (¬ (Node.right y2)=(0:Int))))))) fun x5 =>
 br x5
 (zft (qP (some (3:Int))))
 (zq (some x1.2))))
 (br (decide ((Node.op y2)=(2:Int)))
 (bno (F97 (Node.name y2)) fun y6 =>
 br (decide (¬ y6=(0:Int)))
 (zft (qP (some (2:Int))))
 (jn (σ:=Bool) (α:=(Sum (List Int) (LR (Int×(List Int)) Int))) (br (decide (¬ (Node.n y2)=(0:Int)))
 (zq (some true))
 (br (decide (¬ (Node.left y2)=(0:Int)))
 (zq (some true))
 (zq (some (decide (¬ (Node.right y2)=(0:Int))))))) fun x7 =>
 br x7
 (zft (qP (some (3:Int))))
 (zq (some x1.2))))
 (jn (σ:=Bool) (α:=(Sum (List Int) (LR (Int×(List Int)) Int))) (br (decide ((Node.left y2) < (0:Int)))
 (zq (some true))
 (br (decide (x1.1<=(Node.left y2)))
 (zq (some true))
 (br (decide ((Node.right y2) < (0:Int)))
 (zq (some true))
 (zq (some (decide (x1.1<=(Node.right y2)))))))) fun x8 =>
 br x8
 (zft (qP (some (1:Int))))
 (jn (σ:=Bool) (α:=(Sum (List Int) (LR (Int×(List Int)) Int))) (br (decide (¬ (Node.n y2)=(0:Int)))
 (zq (some true))
 (zq (some (decide (¬ (Node.name y2)=(⟨#[]⟩:ByteArray)))))) fun x9 =>
 br x9
 (zft (qP (some (3:Int))))
 (ck (decide (0<=Node.left y2∧Node.left y2 < (x1.2.length:Int))) <|
 bno ((x1.2)[(Int.toNat (Node.left y2))]?) fun dj =>
 ck (decide (0<=Node.left y2∧Node.left y2 < (x1.2.length:Int))) <|
 bno ((x1.2)[(Int.toNat (Node.left y2))]?) fun cC =>
 ck (decide (0<=Node.right y2∧Node.right y2 < ((List.length (List.set x1.2 (Int.toNat (Node.left y2)) (wi (dj+(1:Int)))):Nat):Int))) <|
 bno ((List.set x1.2 (Int.toNat (Node.left y2)) (wi (dj+(1:Int))))[(Int.toNat (Node.right y2))]?) fun ic =>
 ck (decide (0<=Node.right y2∧Node.right y2 < ((List.length (List.set x1.2 (Int.toNat (Node.left y2)) (wi (dj+(1:Int)))):Nat):Int))) <|
 bno ((List.set x1.2 (Int.toNat (Node.left y2)) (wi (dj+(1:Int))))[(Int.toNat (Node.right y2))]?) fun cg =>
 zq (some (List.set (List.set x1.2 (Int.toNat (Node.left y2)) (wi (dj+(1:Int)))) (Int.toNat (Node.right y2)) (wi (ic+(1:Int))))))))))) fun bD =>
 nxO (some (wi (x1.1+(1:Int)),bD)))
 (dnO (some (x1.1,x1.2)))
def zgZ (a0:LN) (lU:(Int×LI)) (dG:Int):Option (LR Int Int) :=
 br (decide (dG < (wi ((a0.length:Int) - (1:Int)))))
 (ck (decide (0<=dG∧dG < (lU.2.length:Int))) <|
 bno ((lU.2)[(Int.toNat dG)]?) fun kz =>
 br (decide (¬ kz=(1:Int)))
 (qP (some (3:Int)))
 (nxO (some (wi (dG+(1:Int))))))
 (dnO (some dG))
def S240 (a0:LN):Option Int :=
 br (decide ((a0.length:Int)=(0:Int)))
 (some (5:Int))
 (br (decide ((30:Int) < (a0.length:Int)))
 (some (4:Int))
 (ck (decide (0<=(a0.length:Int)∧(a0.length:Int)<=(a0.length:Int)∧(a0.length:Int)<=zH)) <|
 lp (lO F97 a0) ((0:Int),List.replicate (Int.toNat (a0.length:Int)) (0:Int)) fun lU =>
 lp (zgZ a0 lU) (0:Int) fun iZ =>
 some (0:Int)))
def P240:=S240 P97
def k240:CSpec:=⟨240,[(.sl .node)],.int,fun x=>P240 x,false,[]⟩
def r240 {S:Seat} (h:Ok1 S 240 tf240):RtF S [k97] (Rt S k240):=okr h rfl fun x=>by kernel_rfl
end
end
end Ab
