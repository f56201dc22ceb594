import Derived.Test.YtchidgkpkhloeaaGreatDoorHD
import Derived.Test.YtchidgkpkhloeaaGreatDoorC3
set_option linter.all false
noncomputable section
namespace Ab
open Go
section
set_option maxRecDepth 100000
section
variable (F150:Int->(Option Cell)) (F159:Int->(Option ByteArray)) (F160:Int->(Option Int)) (F161:ByteArray->Int->(Option (Int×Bool)))
def mw:TCode:=.seq (rg [oq 2 (.alloc [.int .i64 0,.int .i64 0])]) (.seq (.seq (.regionJ ⟨[.slot 8 .bool],[3,4,5,6,7],[],[]⟩ [om 3 0,oq 4 (.bin .int .lss 3 (ci (-1000000000000))),om 5 4,og 6 (.mov 0) 5 false [],og 7 (.bin .int .gtr 6 (ci 1000000000000)) 5 false [],oq 8 (.pick 5 (cb true) 7)] [] false) (.cond 8 (.seq (rg [oq 9 (.build [.int .i64 0,.int .i64 0] [(0,1,(ci 2))]),on (.store 2 2 9)]) (.ret)) (.skip))) (.seq (rg [om 10 0,oq 11 (.build [.int .i64 0,.int .i64 0] [(0,1,(ci 1)),(1,1,10)]),on (.store 2 2 11)]) (.ret))) 
def lE:TFunc:=⟨1,12,[.cell 2 (some 2)],false,mw,[]⟩
def S150 (a0:Int):Option Cell :=
 jn (σ:=Bool) (α:=Cell) (br (decide (a0 < (-1000000000000:Int)))
 (zt (some true))
 (zt (some (decide ((1000000000000:Int) < a0))))) fun x1 =>
 br x1
 (some (Cell.mk (2:Int) (0:Int)))
 (some (Cell.mk (1:Int) a0))
def P150:=S150
def dc:CSpec:=⟨150,[.int],(.st .cell),fun x=>P150 x,false,[]⟩
def pQ {S:Seat} (h:Ok1 S 150 lE):RtF S [] (Rt S dc):=okr h rfl fun x=>by kernel_rfl
def mz:TCode:=.seq (rg [oq 3 (.box 0),oq 4 (.box 1),oq 6 (.alloc [.int .i64 0,.int .i64 0])]) (.seq (.seq (.regionJ ⟨[.slot 14 .bool],[7,8,9,10,11,12,13],[],[]⟩ [oq 7 (.fa 0 3),oq 8 (.load none 7),oq 9 (.bin .int .eql 8 (ci 2)),om 10 9,og 11 (.fa 0 4) 10 false [],og 12 (.load none 11) 10 false [],og 13 (.bin .int .eql 12 (ci 2)) 10 false [],oq 14 (.pick 10 (cb true) 13)] [] false) (.cond 14 (.seq (rg [oq 15 (.build [.int .i64 0,.int .i64 0] [(0,1,(ci 2))]),on (.store 2 6 15)]) (.ret)) (.skip))) (.seq (.seq (.regionJ ⟨[.slot 23 .bool],[16,17,18,19,20,21,22],[],[]⟩ [oq 16 (.fa 0 3),oq 17 (.load none 16),oq 18 (.bin .int .eql 17 (ci 0)),om 19 18,og 20 (.fa 0 4) 19 true [],og 21 (.load none 20) 19 true [],og 22 (.bin .int .eql 21 (ci 0)) 19 true [],oq 23 (.pick 19 22 (cb false))] [] false) (.cond 23 (.seq (rg [oq 24 (.build [.int .i64 0,.int .i64 0] []),on (.store 2 6 24)]) (.ret)) (.skip))) (.seq (rg [oq 25 (.fa 1 3),oq 26 (.load none 25),om 27 2,oq 28 (.fa 1 4),oq 29 (.load none 28),oq 30 (.bin .int .mul 27 29),oq 31 (.bin .int .add 26 30),oq 32 (.call false [] 150 [31]),on (.store 2 6 32)]) (.ret)))) 
def lH:TFunc:=⟨3,33,[.cell 6 (some 2)],false,mz,[]⟩
def S146 (a0:Cell) (a1:Cell) (a2:Int):Option Cell :=
 jn (σ:=Bool) (α:=Cell) (br (decide ((Cell.k a0)=(2:Int)))
 (zt (some true))
 (zt (some (decide ((Cell.k a1)=(2:Int)))))) fun x1 =>
 br x1
 (some (Cell.mk (2:Int) (0:Int)))
 (jn (σ:=Bool) (α:=Cell) (br (decide ((Cell.k a0)=(0:Int)))
 (zt (some (decide ((Cell.k a1)=(0:Int)))))
 (zt (some false))) fun x2 =>
 br x2
 (some (Cell.mk (0:Int) (0:Int)))
 (bno (F150 (wi ((Cell.n a0)+(wi (a2 * (Cell.n a1)))))) fun y3 =>
 some y3))
def P146:=S146 P150
def eo:CSpec:=⟨146,[(.st .cell),(.st .cell),.int],(.st .cell),fun x=>P146 x.1 x.2.1 x.2.2,false,[]⟩
def pT {S:Seat} (h:Ok1 S 146 lH):RtF S [dc] (Rt S eo):=okr h rfl fun x=>by kernel_rfl
def mr:TCode:=.seq (rg [om 2 (ci 0)]) (.seq (.seq (rg [om 3 0,oq 4 (.bin .int .lss 3 (ci 0))]) (.cond 4 (.seq (rg [om 5 0,oq 6 (.un .neg 5),om 2 6]) (.ret)) (.skip))) (.seq (rg [om 7 0,om 2 7]) (.ret))) 
def lB:TFunc:=⟨1,8,[.tmp 2],false,mr,[]⟩
def S160 (a0:Int):Option Int :=
 br (decide (a0 < (0:Int)))
 (some (wi (0 - a0)))
 (some a0)
def P160:=S160
def fX:CSpec:=⟨160,[.int],.int,fun x=>P160 x,false,[]⟩
def pN {S:Seat} (h:Ok1 S 160 lB):RtF S [] (Rt S fX):=okr h rfl fun x=>by kernel_rfl
def my:TCode:=.seq (rg [oq 2 (.box 0),oq 3 (.box 1),oq 4 (.alloc [.int .i64 0,.int .i64 0])]) (.seq (.seq (.regionJ ⟨[.slot 14 .bool],[7,8,9,10,11,12,13],[],[]⟩ [oq 7 (.fa 0 2),oq 8 (.load none 7),oq 9 (.bin .int .eql 8 (ci 2)),om 10 9,og 11 (.fa 0 3) 10 false [],og 12 (.load none 11) 10 false [],og 13 (.bin .int .eql 12 (ci 2)) 10 false [],oq 14 (.pick 10 (cb true) 13)] [] false) (.cond 14 (.seq (rg [oq 15 (.build [.int .i64 0,.int .i64 0] [(0,1,(ci 2))]),on (.store 2 4 15)]) (.ret)) (.skip))) (.seq (.seq (.regionJ ⟨[.slot 23 .bool],[16,17,18,19,20,21,22],[],[]⟩ [oq 16 (.fa 0 2),oq 17 (.load none 16),oq 18 (.bin .int .eql 17 (ci 0)),om 19 18,og 20 (.fa 0 3) 19 false [],og 21 (.load none 20) 19 false [],og 22 (.bin .int .eql 21 (ci 0)) 19 false [],oq 23 (.pick 19 (cb true) 22)] [] false) (.cond 23 (.seq (rg [oq 24 (.build [.int .i64 0,.int .i64 0] []),on (.store 2 4 24)]) (.ret)) (.skip))) (.seq (rg [oq 25 (.fa 1 2),oq 26 (.load none 25),oq 27 (.call false [] 160 [26]),om 5 27]) (.seq (rg [oq 28 (.fa 1 3),oq 29 (.load none 28),oq 30 (.call false [] 160 [29]),om 6 30]) (.seq (.seq (.regionJ ⟨[.slot 38 .bool],[31,32,33,34,35,36,37],[],[]⟩ [om 31 5,oq 32 (.bin .int .gtr 31 (ci 0)),om 33 32,og 34 (.mov 6) 33 true [],og 35 (.mov 5) 33 true [],og 36 (.bin .int .quo (ci 1000000000000) 35) 33 true [],og 37 (.bin .int .gtr 34 36) 33 true [],oq 38 (.pick 33 37 (cb false))] [] false) (.cond 38 (.seq (rg [oq 39 (.build [.int .i64 0,.int .i64 0] [(0,1,(ci 2))]),on (.store 2 4 39)]) (.ret)) (.skip))) (.seq (rg [oq 40 (.fa 1 2),oq 41 (.load none 40),oq 42 (.fa 1 3),oq 43 (.load none 42),oq 44 (.bin .int .mul 41 43),oq 45 (.call false [] 150 [44]),on (.store 2 4 45)]) (.ret))))))) 
def lG:TFunc:=⟨2,46,[.cell 4 (some 2)],false,my,[]⟩
def S147 (a0:Cell) (a1:Cell):Option Cell :=
 jn (σ:=Bool) (α:=Cell) (br (decide ((Cell.k a0)=(2:Int)))
 (zt (some true))
 (zt (some (decide ((Cell.k a1)=(2:Int)))))) fun x1 =>
 br x1
 (some (Cell.mk (2:Int) (0:Int)))
 (jn (σ:=Bool) (α:=Cell) (br (decide ((Cell.k a0)=(0:Int)))
 (zt (some true))
 (zt (some (decide ((Cell.k a1)=(0:Int)))))) fun x2 =>
 br x2
 (some (Cell.mk (0:Int) (0:Int)))
 (bno (F160 (Cell.n a0)) fun y3 =>
 bno (F160 (Cell.n a1)) fun y4 =>
 jn (σ:=Bool) (α:=Cell) (br (decide ((0:Int) < y3))
 (ck (decide (¬ y3=0)) <|
 zt (some (decide ((wi (Int.tdiv (1000000000000:Int) y3)) < y4))))
 (zt (some false))) fun x5 =>
 br x5
 (some (Cell.mk (2:Int) (0:Int)))
 (bno (F150 (wi ((Cell.n a0) * (Cell.n a1)))) fun y6 =>
 some y6)))
def P147:=S147 P150 P160
def eS:CSpec:=⟨147,[(.st .cell),(.st .cell)],(.st .cell),fun x=>P147 x.1 x.2,false,[]⟩
def pS {S:Seat} (h:Ok1 S 147 lG):RtF S [dc,fX] (Rt S eS):=okr h rfl fun x=>by kernel_rfl
def mx:TCode:=.seq (rg [oq 2 (.box 0),oq 3 (.box 1),oq 4 (.alloc [.int .i64 0,.int .i64 0])]) (.seq (.seq (.regionJ ⟨[.slot 13 .bool],[6,7,8,9,10,11,12],[],[]⟩ [oq 6 (.fa 0 2),oq 7 (.load none 6),oq 8 (.bin .int .eql 7 (ci 2)),om 9 8,og 10 (.fa 0 3) 9 false [],og 11 (.load none 10) 9 false [],og 12 (.bin .int .eql 11 (ci 2)) 9 false [],oq 13 (.pick 9 (cb true) 12)] [] false) (.cond 13 (.seq (rg [oq 14 (.build [.int .i64 0,.int .i64 0] [(0,1,(ci 2))]),on (.store 2 4 14)]) (.ret)) (.skip))) (.seq (.seq (.regionJ ⟨[.slot 22 .bool],[15,16,17,18,19,20,21],[],[]⟩ [oq 15 (.fa 0 2),oq 16 (.load none 15),oq 17 (.bin .int .eql 16 (ci 0)),om 18 17,og 19 (.fa 0 3) 18 false [],og 20 (.load none 19) 18 false [],og 21 (.bin .int .eql 20 (ci 0)) 18 false [],oq 22 (.pick 18 (cb true) 21)] [] false) (.cond 22 (.seq (rg [oq 23 (.build [.int .i64 0,.int .i64 0] []),on (.store 2 4 23)]) (.ret)) (.skip))) (.seq (.seq (rg [oq 24 (.fa 1 3),oq 25 (.load none 24),oq 26 (.bin .int .eql 25 (ci 0))]) (.cond 26 (.seq (rg [oq 27 (.build [.int .i64 0,.int .i64 0] [(0,1,(ci 2))]),on (.store 2 4 27)]) (.ret)) (.skip))) (.seq (.region [oq 28 (.fa 1 2),od 29 (.load none 28) [0],od 30 (.call false [] 160 [29]) [1],oq 31 (.fa 1 3),od 32 (.load none 31) [3],od 33 (.call false [] 160 [32]) [4,2],od 34 (.bin .int .quo 30 33) [2,5],od 5 (.mov 34) [6,5,0,1,2,3,4,5,6]] [] true) (.seq (.seq (rg [oq 35 (.fa 1 2),oq 36 (.load none 35),oq 37 (.bin .int .lss 36 (ci 0)),oq 38 (.fa 1 3),oq 39 (.load none 38),oq 40 (.bin .int .lss 39 (ci 0)),oq 41 (.bin .bool .neq 37 40)]) (.condJ ⟨[.slot 5 .int],[42,43],[],[]⟩ 41 (rg [om 42 5,oq 43 (.un .neg 42),om 5 43]) (.skip))) (.seq (rg [om 44 5,oq 45 (.call false [] 150 [44]),on (.store 2 4 45)]) (.ret))))))) 
def lF:TFunc:=⟨2,46,[.cell 4 (some 2)],false,mx,[]⟩
def S148 (a0:Cell) (a1:Cell):Option Cell :=
 jn (σ:=Bool) (α:=Cell) (br (decide ((Cell.k a0)=(2:Int)))
 (zt (some true))
 (zt (some (decide ((Cell.k a1)=(2:Int)))))) fun x1 =>
 br x1
 (some (Cell.mk (2:Int) (0:Int)))
 (jn (σ:=Bool) (α:=Cell) (br (decide ((Cell.k a0)=(0:Int)))
 (zt (some true))
 (zt (some (decide ((Cell.k a1)=(0:Int)))))) fun x2 =>
 br x2
 (some (Cell.mk (0:Int) (0:Int)))
 (br (decide ((Cell.n a1)=(0:Int)))
 (some (Cell.mk (2:Int) (0:Int)))
 (bno (F160 (Cell.n a0)) fun y3 =>
 bno (F160 (Cell.n a1)) fun y4 =>
 ck (decide (¬ y4=0)) <|
 jn (σ:=Int) (α:=Cell) (br (decide (¬ (decide ((Cell.n a0) < (0:Int)))=(decide ((Cell.n a1) < (0:Int)))))
 (zt (some (wi (0 - (wi (Int.tdiv y3 y4))))))
 (zt (some (wi (Int.tdiv y3 y4))))) fun x5 =>
 bno (F150 x5) fun y6 =>
 some y6)))
def P148:=S148 P150 P160
def eR:CSpec:=⟨148,[(.st .cell),(.st .cell)],(.st .cell),fun x=>P148 x.1 x.2,false,[]⟩
def pR {S:Seat} (h:Ok1 S 148 lF):RtF S [dc,fX] (Rt S eR):=okr h rfl fun x=>by kernel_rfl
end
end
section
set_option maxRecDepth 100000
section
variable (F245:LN->(Option ((List ByteArray)×Err))) (F297:(List ByteArray)->ByteArray->(Option Bool)) (F298_299:LN->(LC×(List ByteArray))->(Option Cell)) (F299:ByteArray->LC->(List ByteArray)->(Option Cell)) (F300:(List ByteArray)->ByteArray->(Option Int)) (F33:Cell->Cell->Int->(Option Cell)) (F34:Cell->Cell->(Option Cell)) (F35:Cell->Cell->(Option Cell)) (F52:Cell->(Option Err)) (F8:Int->(Option Cell))
def tc298:TCode:=.seq (rg [oq 4 (.alloc [.int .i64 0,.int .i64 0])]) (.seq (.region [om 8 0,oq 9 (.len false 8),oq 10 (.mksl 2 [.int .i64 0,.int .i64 0] 9 9),om 5 10] [.int,.int,.cell] false) (.seq (.seq (rg [om 11 0,oq 12 (.len false 11),om 13 (ci 0)]) (.loop ⟨[.slot 13 .int,.rowH 10 .cell],[6,7,14,15,16,17,18,19,20,21,22,23,24,25,26,27,28,29,30,31,32,33,34,35,36,37,38,39,40,41,42,43,44,45,46,47,48,49,50,51,52,53,54,55,56,57,58,59,60,61,62,63,64,65,66,67,68,69,70,71,72,73,74,75,76,77,78,79,80,81,82,83,84,85,86,87,88,89,90,91,92,93,94,95,96,97,98,99],[7],[]⟩ 0 (.seq (rg [oq 14 (.bin .int .lss 13 12)]) (.seq (.cond 14 (.skip) (.exit 0)) (.seq (.block 1 (.seq (rg [om 15 13,oq 16 (.ia 5 11 13),oq 17 (.load (some 5) 16),oq 7 (.alloc [.int .i64 0,.int .i64 0,.string ⟨#[]⟩,.int .i64 0,.int .i64 0]),om 6 15,on (.store 5 7 17)]) (.seq (rg [oq 18 (.fa 0 7),oq 19 (.load none 18)]) (.block 2 (.seq (rg [oq 35 (.bin .int .eql 19 (ci 1)),om 34 35]) (.condJ ⟨[.rowH 10 .cell],[20,21,22,23,24,25,26,27,28,29,30,31,32,33,36,37,38,39,40,41,42,43,44,45,46,47,48,49,50,51,52,53,54,55,56,57,58,59,60,61,62,63,64,65,66,67,68,69,70,71,72,73,74,75,76,77,78,79,80,81,82,83,84,85,86,87,88,89,90,91,92,93,94,95,96,97,98],[],[]⟩ 34 (rg [om 36 5,om 37 6,oq 38 (.fa 1 7),oq 39 (.load none 38),oq 40 (.call false [] 8 [39]),oq 41 (.ia 2 36 37),on (.store 2 41 40)]) (.seq (rg [oq 43 (.bin .int .eql 19 (ci 2)),om 42 43]) (.condJ ⟨[.rowH 10 .cell],[20,21,22,23,24,25,26,27,28,29,30,31,32,33,44,45,46,47,48,49,50,51,52,53,54,55,56,57,58,59,60,61,62,63,64,65,66,67,68,69,70,71,72,73,74,75,76,77,78,79,80,81,82,83,84,85,86,87,88,89,90,91,92,93,94,95,96,97,98],[],[]⟩ 42 (rg [om 44 5,om 45 6,om 46 1,oq 47 (.fa 2 7),oq 48 (.load none 47),oq 49 (.calld false 46 [48]),oq 50 (.ia 2 44 45),on (.store 2 50 49)]) (.seq (rg [oq 52 (.bin .int .eql 19 (ci 3)),om 51 52]) (.condJ ⟨[.rowH 10 .cell],[20,21,22,23,24,25,26,27,28,29,30,31,32,33,53,54,55,56,57,58,59,60,61,62,63,64,65,66,67,68,69,70,71,72,73,74,75,76,77,78,79,80,81,82,83,84,85,86,87,88,89,90,91,92,93,94,95,96,97,98],[],[]⟩ 51 (.region [om 53 5,om 54 6,om 55 5,oq 56 (.fa 3 7),od 57 (.load none 56) [3],od 58 (.ia 2 55 57) [2,4],od 59 (.load (some 2) 58) [5],om 60 5,oq 61 (.fa 4 7),od 62 (.load none 61) [8],od 63 (.ia 2 60 62) [7,9],od 64 (.load (some 2) 63) [10],od 65 (.call false [] 33 [59,64,(ci 1)]) [6,11],od 66 (.ia 2 53 54) [0,1,0,1,2,3,4,5,6,7,8,9,10,11,12],⟨none,.store 2 66 65,none,[13,12,12,0,1,2,3,4,5,6,7,8,9,10,11,12]⟩] [] true) (.seq (rg [oq 68 (.bin .int .eql 19 (ci 4)),om 67 68]) (.condJ ⟨[.rowH 10 .cell],[20,21,22,23,24,25,26,27,28,29,30,31,32,33,69,70,71,72,73,74,75,76,77,78,79,80,81,82,83,84,85,86,87,88,89,90,91,92,93,94,95,96,97,98],[],[]⟩ 67 (.region [om 69 5,om 70 6,om 71 5,oq 72 (.fa 3 7),od 73 (.load none 72) [3],od 74 (.ia 2 71 73) [2,4],od 75 (.load (some 2) 74) [5],om 76 5,oq 77 (.fa 4 7),od 78 (.load none 77) [8],od 79 (.ia 2 76 78) [7,9],od 80 (.load (some 2) 79) [10],od 81 (.call false [] 33 [75,80,(ci (-1))]) [6,11],od 82 (.ia 2 69 70) [0,1,0,1,2,3,4,5,6,7,8,9,10,11,12],⟨none,.store 2 82 81,none,[13,12,12,0,1,2,3,4,5,6,7,8,9,10,11,12]⟩] [] true) (.seq (rg [oq 84 (.bin .int .eql 19 (ci 5)),om 83 84]) (.condJ ⟨[.rowH 10 .cell],[20,21,22,23,24,25,26,27,28,29,30,31,32,33,85,86,87,88,89,90,91,92,93,94,95,96,97,98],[],[]⟩ 83 (.region [om 85 5,om 86 6,om 87 5,oq 88 (.fa 3 7),od 89 (.load none 88) [3],od 90 (.ia 2 87 89) [2,4],od 91 (.load (some 2) 90) [5],om 92 5,oq 93 (.fa 4 7),od 94 (.load none 93) [8],od 95 (.ia 2 92 94) [7,9],od 96 (.load (some 2) 95) [10],od 97 (.call false [] 34 [91,96]) [6,11],od 98 (.ia 2 85 86) [0,1,0,1,2,3,4,5,6,7,8,9,10,11,12],⟨none,.store 2 98 97,none,[13,12,12,0,1,2,3,4,5,6,7,8,9,10,11,12]⟩] [] true) (.region [om 20 5,om 21 6,om 22 5,oq 23 (.fa 3 7),od 24 (.load none 23) [3],od 25 (.ia 2 22 24) [2,4],od 26 (.load (some 2) 25) [5],om 27 5,oq 28 (.fa 4 7),od 29 (.load none 28) [8],od 30 (.ia 2 27 29) [7,9],od 31 (.load (some 2) 30) [10],od 32 (.call false [] 35 [26,31]) [6,11],od 33 (.ia 2 20 21) [0,1,0,1,2,3,4,5,6,7,8,9,10,11,12],⟨none,.store 2 33 32,none,[13,12,12,0,1,2,3,4,5,6,7,8,9,10,11,12]⟩] [] true))))))))))))))) (rg [oq 99 (.bin .int .add 13 (ci 1)),om 13 99])))))) (.seq (rg [om 100 5,om 101 0,oq 102 (.len false 101),oq 103 (.bin .int .sub 102 (ci 1)),oq 104 (.ia 2 100 103),oq 105 (.load (some 2) 104),on (.store 2 4 105)]) (.ret)))) 
def tf298:TFunc:=⟨2,106,[.cell 4 (some 2)],false,tc298,[]⟩
end
end
section
set_option maxRecDepth 100000
section
variable (F146:Cell->Cell->Int->(Option Cell)) (F147:Cell->Cell->(Option Cell)) (F148:Cell->Cell->(Option Cell)) (F150:Int->(Option Cell)) (F291:(List ByteArray)->ByteArray->(Option Int)) (F292:LN->Int->(List ByteArray)->LC->(Option Cell)) (F97:ByteArray->(Option Int))
def mq:TCode:=.seq (rg [om 2 (ci 0)]) (.seq (.seq (rg [om 7 0,oq 8 (.len false 7),oq 9 (.bin .int .eql 8 (ci 0))]) (.cond 9 (.seq (rg [om 2 (ci 5)]) (.ret)) (.skip))) (.seq (.seq (rg [om 10 0,oq 11 (.len false 10),oq 12 (.bin .int .gtr 11 (ci 30))]) (.cond 12 (.seq (rg [om 2 (ci 4)]) (.ret)) (.skip))) (.seq (rg [om 13 0,oq 14 (.len false 13),oq 15 (.mksl 1 [.int .i64 0] 14 14),om 3 15]) (.seq (.seq (rg [om 4 (ci 0)]) (.loop ⟨[.slot 4 .int,.rowH 15 .int],[5,16,17,18,19,20,21,22,23,24,25,26,27,28,29,30,31,32,33,34,35,36,37,38,39,40,41,42,43,44,45,46,47,48,49,50,51,52,53,54,55,56,57,58,59,60,61,62,63,64,65,66,67,68,69,70,71,72,73,74,75,76,77,78,79,80,81,82,83,84,85,86,87,88,89,90,91,92,93,94,95,96,97,98,99,100,101,102,103,104,105,106,107,108,109,110,111,112,113,114,115,116,117,118,119],[5],[]⟩ 0 (.seq (.seq (rg [om 16 4,om 17 0,oq 18 (.len false 17),oq 19 (.bin .int .lss 16 18)]) (.cond 19 (.skip) (.exit 0))) (.seq (.blockJ ⟨[.rowH 15 .int],[5,22,23,24,25,26,27,28,29,30,31,32,33,34,35,36,37,38,39,40,41,42,43,44,45,46,47,48,49,50,51,52,53,54,55,56,57,58,59,60,61,62,63,64,65,66,67,68,69,70,71,72,73,74,75,76,77,78,79,80,81,82,83,84,85,86,87,88,89,90,91,92,93,94,95,96,97,98,99,100,101,102,103,104,105,106,107,108,109,110,111,112,113,114,115,116,117,118,119],[5],[]⟩ 1 (.seq (rg [om 22 0,om 23 4,oq 24 (.ia 5 22 23),oq 25 (.load (some 5) 24),oq 5 (.alloc [.int .i64 0,.int .i64 0,.string ⟨#[]⟩,.int .i64 0,.int .i64 0]),on (.store 5 5 25)]) (.seq (.seq (.regionJ ⟨[.slot 33 .bool],[26,27,28,29,30,31,32],[],[]⟩ [oq 26 (.fa 0 5),oq 27 (.load none 26),oq 28 (.bin .int .lss 27 (ci 1)),om 29 28,og 30 (.fa 0 5) 29 false [],og 31 (.load none 30) 29 false [],og 32 (.bin .int .gtr 31 (ci 6)) 29 false [],oq 33 (.pick 29 (cb true) 32)] [] false) (.cond 33 (.seq (rg [om 2 (ci 1)]) (.ret)) (.skip))) (.seq (.seq (rg [oq 34 (.fa 0 5),oq 35 (.load none 34),oq 36 (.bin .int .eql 35 (ci 1))]) (.cond 36 (.seq (.seq (.regionJ ⟨[.slot 44 .bool],[37,38,39,40,41,42,43],[],[]⟩ [oq 37 (.fa 1 5),oq 38 (.load none 37),oq 39 (.bin .int .lss 38 (ci 0)),om 40 39,og 41 (.fa 1 5) 40 false [],og 42 (.load none 41) 40 false [],og 43 (.bin .int .gtr 42 (ci 1000000)) 40 false [],oq 44 (.pick 40 (cb true) 43)] [] false) (.cond 44 (.seq (rg [om 2 (ci 1)]) (.ret)) (.skip))) (.seq (.seq (.regionJ ⟨[.slot 57 .bool],[45,46,47,48,49,50,51,52,53,54,55,56],[],[]⟩ [oq 45 (.fa 2 5),oq 46 (.load none 45),oq 47 (.bin .str .neq 46 (cs ⟨#[]⟩)),om 48 47,og 49 (.fa 3 5) 48 false [],og 50 (.load none 49) 48 false [],og 51 (.bin .int .neq 50 (ci 0)) 48 false [],oq 52 (.pick 48 (cb true) 51),om 53 52,og 54 (.fa 4 5) 53 false [],og 55 (.load none 54) 53 false [],og 56 (.bin .int .neq 55 (ci 0)) 53 false [],oq 57 (.pick 53 (cb true) 56)] [] false) (.cond 57 (.seq (rg [om 2 (ci 3)]) (.ret)) (.skip))) (.exit 1))) (.skip))) (.seq (.seq (rg [oq 58 (.fa 0 5),oq 59 (.load none 58),oq 60 (.bin .int .eql 59 (ci 2))]) (.cond 60 (.seq (.seq (rg [oq 61 (.fa 2 5),oq 62 (.load none 61),oq 63 (.call false [] 97 [62]),oq 64 (.bin .int .neq 63 (ci 0))]) (.cond 64 (.seq (rg [om 2 (ci 2)]) (.ret)) (.skip))) (.seq (.seq (.regionJ ⟨[.slot 77 .bool],[65,66,67,68,69,70,71,72,73,74,75,76],[],[]⟩ [oq 65 (.fa 1 5),oq 66 (.load none 65),oq 67 (.bin .int .neq 66 (ci 0)),om 68 67,og 69 (.fa 3 5) 68 false [],og 70 (.load none 69) 68 false [],og 71 (.bin .int .neq 70 (ci 0)) 68 false [],oq 72 (.pick 68 (cb true) 71),om 73 72,og 74 (.fa 4 5) 73 false [],og 75 (.load none 74) 73 false [],og 76 (.bin .int .neq 75 (ci 0)) 73 false [],oq 77 (.pick 73 (cb true) 76)] [] false) (.cond 77 (.seq (rg [om 2 (ci 3)]) (.ret)) (.skip))) (.exit 1))) (.skip))) (.seq (.seq (.regionJ ⟨[.slot 97 .bool],[78,79,80,81,82,83,84,85,86,87,88,89,90,91,92,93,94,95,96],[],[]⟩ [oq 78 (.fa 3 5),oq 79 (.load none 78),oq 80 (.bin .int .lss 79 (ci 0)),om 81 80,og 82 (.fa 3 5) 81 false [],og 83 (.load none 82) 81 false [],og 84 (.mov 4) 81 false [],og 85 (.bin .int .geq 83 84) 81 false [],oq 86 (.pick 81 (cb true) 85),om 87 86,og 88 (.fa 4 5) 87 false [],og 89 (.load none 88) 87 false [],og 90 (.bin .int .lss 89 (ci 0)) 87 false [],oq 91 (.pick 87 (cb true) 90),om 92 91,og 93 (.fa 4 5) 92 false [],og 94 (.load none 93) 92 false [],og 95 (.mov 4) 92 false [],og 96 (.bin .int .geq 94 95) 92 false [],oq 97 (.pick 92 (cb true) 96)] [] false) (.cond 97 (.seq (rg [om 2 (ci 1)]) (.ret)) (.skip))) (.seq (.seq (.regionJ ⟨[.slot 105 .bool],[98,99,100,101,102,103,104],[],[]⟩ [oq 98 (.fa 1 5),oq 99 (.load none 98),oq 100 (.bin .int .neq 99 (ci 0)),om 101 100,og 102 (.fa 2 5) 101 false [],og 103 (.load none 102) 101 false [],og 104 (.bin .str .neq 103 (cs ⟨#[]⟩)) 101 false [],oq 105 (.pick 101 (cb true) 104)] [] false) (.cond 105 (.seq (rg [om 2 (ci 3)]) (.ret)) (.skip))) (.seq (rg [om 106 3,oq 107 (.fa 3 5),oq 108 (.load none 107),oq 109 (.ia 1 106 108),oq 110 (.load none 109),oq 111 (.bin .int .add 110 (ci 1)),oq 112 (.ia 1 106 108),on (.store 1 112 111)]) (rg [om 113 3,oq 114 (.fa 4 5),oq 115 (.load none 114),oq 116 (.ia 1 113 115),oq 117 (.load none 116),oq 118 (.bin .int .add 117 (ci 1)),oq 119 (.ia 1 113 115),on (.store 1 119 118)]))))))))) (rg [om 20 4,oq 21 (.bin .int .add 20 (ci 1)),om 4 21]))))) (.seq (.seq (rg [om 6 (ci 0)]) (.loop ⟨[.slot 6 .int],[120,121,122,123,124,125,126,127,128,129,130,131],[],[]⟩ 2 (.seq (.seq (rg [om 120 6,om 121 0,oq 122 (.len false 121),oq 123 (.bin .int .sub 122 (ci 1)),oq 124 (.bin .int .lss 120 123)]) (.cond 124 (.skip) (.exit 2))) (.seq (.block 3 (.seq (rg [om 127 3,om 128 6,oq 129 (.ia 1 127 128),oq 130 (.load none 129),oq 131 (.bin .int .neq 130 (ci 1))]) (.cond 131 (.seq (rg [om 2 (ci 3)]) (.ret)) (.skip)))) (rg [om 125 6,oq 126 (.bin .int .add 125 (ci 1)),om 6 126]))))) (.seq (rg [om 2 (ci 0)]) (.ret))))))) 
def lA:TFunc:=⟨1,132,[.tmp 2],false,mq,[]⟩
def zgB (a0:LN) (x1:(Int×LI)):Option (LR (Int×LI) Int) :=
 br (decide (x1.1 < (a0.length:Int)))
 (jn (σ:=(List Int)) (α:=(LR (Int×(List Int)) Int)) (bno (zl a0 x1.1) fun y2 =>
 jn (σ:=Bool) (α:=(Sum (List Int) (LR (Int×(List Int)) Int))) (br (decide ((Node.op y2) < (1:Int)))
 (zt (some true))
 (zt (some (decide ((6:Int) < (Node.op y2)))))) fun x3 =>
 br x3
 (ze0 (qX (some (1:Int))))
 (br (decide ((Node.op y2)=(1:Int)))
 (jn (σ:=Bool) (α:=(Sum (List Int) (LR (Int×(List Int)) Int))) (br (decide ((Node.n y2) < (0:Int)))
 (zt (some true))
 (zt (some (decide ((1000000:Int) < (Node.n y2)))))) fun x4 =>
 br x4
 (ze0 (qX (some (1:Int))))
 (jn (σ:=Bool) (α:=(Sum (List Int) (LR (Int×(List Int)) Int))) (br (decide (¬ (Node.name y2)=(⟨#[]⟩:ByteArray)))
 (zt (some true))
 (br (decide (¬ (Node.left y2)=(0:Int)))
 (zt (some true))
 (zt (some (decide (¬ (Node.right y2)=(0:Int))))))) fun x5 =>
 br x5
 (ze0 (qX (some (3:Int))))
 (zt (some x1.2))))
 (br (decide ((Node.op y2)=(2:Int)))
 (bno (F97 (Node.name y2)) fun y6 =>
 br (decide (¬ y6=(0:Int)))
 (ze0 (qX (some (2:Int))))
 (jn (σ:=Bool) (α:=(Sum (List Int) (LR (Int×(List Int)) Int))) (br (decide (¬ (Node.n y2)=(0:Int)))
 (zt (some true))
 (br (decide (¬ (Node.left y2)=(0:Int)))
 (zt (some true))
 (zt (some (decide (¬ (Node.right y2)=(0:Int))))))) fun x7 =>
 br x7
 (ze0 (qX (some (3:Int))))
 (zt (some x1.2))))
 (jn (σ:=Bool) (α:=(Sum (List Int) (LR (Int×(List Int)) Int))) (br (decide ((Node.left y2) < (0:Int)))
 (zt (some true))
 (br (decide (x1.1<=(Node.left y2)))
 (zt (some true))
 (br (decide ((Node.right y2) < (0:Int)))
 (zt (some true))
 (zt (some (decide (x1.1<=(Node.right y2)))))))) fun x8 =>
 br x8
 (ze0 (qX (some (1:Int))))
 (jn (σ:=Bool) (α:=(Sum (List Int) (LR (Int×(List Int)) Int))) (br (decide (¬ (Node.n y2)=(0:Int)))
 (zt (some true))
 (zt (some (decide (¬ (Node.name y2)=(⟨#[]⟩:ByteArray)))))) fun x9 =>
 br x9
 (ze0 (qX (some (3:Int))))
 (ck (decide (0<=Node.left y2∧Node.left y2 < (x1.2.length:Int))) <|
 bno ((x1.2)[(Int.toNat (Node.left y2))]?) fun dw =>
 ck (decide (0<=Node.left y2∧Node.left y2 < (x1.2.length:Int))) <|
 bno ((x1.2)[(Int.toNat (Node.left y2))]?) fun cS =>
 ck (decide (0<=Node.right y2∧Node.right y2 < ((List.length (List.set x1.2 (Int.toNat (Node.left y2)) (wi (dw+(1:Int)))):Nat):Int))) <|
 bno ((List.set x1.2 (Int.toNat (Node.left y2)) (wi (dw+(1:Int))))[(Int.toNat (Node.right y2))]?) fun da =>
 ck (decide (0<=Node.right y2∧Node.right y2 < ((List.length (List.set x1.2 (Int.toNat (Node.left y2)) (wi (dw+(1:Int)))):Nat):Int))) <|
 bno ((List.set x1.2 (Int.toNat (Node.left y2)) (wi (dw+(1:Int))))[(Int.toNat (Node.right y2))]?) fun cp =>
 zt (some (List.set (List.set x1.2 (Int.toNat (Node.left y2)) (wi (dw+(1:Int)))) (Int.toNat (Node.right y2)) (wi (da+(1:Int))))))))))) fun eC =>
 nxO (some (wi (x1.1+(1:Int)),eC)))
 (dnO (some (x1.1,x1.2)))
def zgA (a0:LN) (oa:(Int×LI)) (dC:Int):Option (LR Int Int) :=
 br (decide (dC < (wi ((a0.length:Int) - (1:Int)))))
 (ck (decide (0<=dC∧dC < (oa.2.length:Int))) <|
 bno ((oa.2)[(Int.toNat dC)]?) fun eL =>
 br (decide (¬ eL=(1:Int)))
 (qX (some (3:Int)))
 (nxO (some (wi (dC+(1:Int))))))
 (dnO (some dC))
def S240 (a0:LN):Option Int :=
 br (decide ((a0.length:Int)=(0:Int)))
 (some (5:Int))
 (br (decide ((30:Int) < (a0.length:Int)))
 (some (4:Int))
 (ck (decide (0<=(a0.length:Int)∧(a0.length:Int)<=(a0.length:Int)∧(a0.length:Int)<=zu)) <|
 lp (zgB F97 a0) ((0:Int),List.replicate (Int.toNat (a0.length:Int)) (0:Int)) fun oa =>
 lp (zgA a0 oa) (0:Int) fun ku =>
 some (0:Int)))
def P240:=S240 P97
def iw:CSpec:=⟨240,[(.sl .node)],.int,fun x=>P240 x,false,[]⟩
def pM {S:Seat} (h:Ok1 S 240 lA):RtF S [oe] (Rt S iw):=okr h rfl fun x=>by kernel_rfl
def mo:TCode:=.seq (rg [om 2 cn]) (.seq (rg [om 3 cn]) (.seq (.seq (rg [om 4 (ci 0)]) (.loop ⟨[.slot 3 (.sl .str),.slot 4 .int],[5,6,7,8,9,10,11,12,13,14,15,16,17,18,19,20,21,22,23,24,25,26,27,28,29,30,31,32,33,34,35,36,37,38,39,40,41,42,43,44,45,46,47,48,49,50,51,52,53,54,55,56,57,58,59,60,61,62,63,64,65,66,67,68,69,70],[57,64],[]⟩ 0 (.seq (.seq (rg [om 7 4,om 8 0,oq 9 (.len false 8),oq 10 (.bin .int .lss 7 9)]) (.cond 10 (.skip) (.exit 0))) (.seq (.blockJ ⟨[.slot 3 (.sl .str)],[5,6,13,14,15,16,17,18,19,20,21,22,23,24,25,26,27,28,29,30,31,32,33,34,35,36,37,38,39,40,41,42,43,44,45,46,47,48,49,50,51,52,53,54,55,56,57,58,59,60,61,62,63,64,65,66,67,68,69,70],[57,64],[57]⟩ 1 (.seq (.seq (rg [om 13 0,om 14 4,oq 15 (.ia 5 13 14),oq 16 (.fa 0 15),oq 17 (.load none 16),oq 18 (.bin .int .neq 17 (ci 2))]) (.cond 18 (.exit 1) (.skip))) (.seq (rg [om 5 (ci 0)]) (.seq (.loop ⟨[.slot 5 .int],[19,20,21,22,23,24,25,26,27,28,29,30,31,32,33,34,35,36],[],[]⟩ 2 (.seq (.seq (.regionJ ⟨[.slot 34 .bool],[19,20,21,22,23,24,25,26,27,28,29,30,31,32,33],[],[]⟩ [om 19 5,om 20 3,od 21 (.len false 20) [1],od 22 (.bin .int .lss 19 21) [0,2],od 23 (.mov 22) [3],og 24 (.mov 3) 23 true [4],og 25 (.mov 5) 23 true [4],og 26 (.ia 1 24 25) 23 true [5,6,4],og 27 (.load none 26) 23 true [7,4],og 28 (.mov 0) 23 true [4],og 29 (.mov 4) 23 true [4],og 30 (.ia 5 28 29) 23 true [9,10,4],og 31 (.fa 2 30) 23 true [11,4],og 32 (.load none 31) 23 true [12,4],og 33 (.bin .str .lss 27 32) 23 true [8,13,4],od 34 (.pick 23 33 (cb false)) [4,14]] [] true) (.cond 34 (.skip) (.exit 2))) (.block 3 (rg [om 35 5,oq 36 (.bin .int .add 35 (ci 1)),om 5 36])))) (.seq (.seq (.regionJ ⟨[.slot 52 .bool],[37,38,39,40,41,42,43,44,45,46,47,48,49,50,51],[],[]⟩ [om 37 5,om 38 3,od 39 (.len false 38) [1],od 40 (.bin .int .lss 37 39) [0,2],od 41 (.mov 40) [3],og 42 (.mov 3) 41 true [4],og 43 (.mov 5) 41 true [4],og 44 (.ia 1 42 43) 41 true [5,6,4],og 45 (.load none 44) 41 true [7,4],og 46 (.mov 0) 41 true [4],og 47 (.mov 4) 41 true [4],og 48 (.ia 5 46 47) 41 true [9,10,4],og 49 (.fa 2 48) 41 true [11,4],og 50 (.load none 49) 41 true [12,4],og 51 (.bin .str .eql 45 50) 41 true [8,13,4],od 52 (.pick 41 51 (cb false)) [4,14]] [] true) (.cond 52 (.exit 1) (.skip))) (.seq (rg [om 6 cn]) (.seq (.region [om 53 6,om 54 3,om 55 5,oq 56 (.slc 1 54 none (some 55)),oq 57 (.app 1 53 56),om 6 57] [.int,.int,.int,.int,.str] false) (.seq (.region [om 58 6,om 59 0,om 60 4,oq 61 (.ia 5 59 60),oq 62 (.fa 2 61),oq 63 (.load none 62),oq 64 (.bslice false 1 [.string ⟨#[]⟩] 1 [(0,63)]),oq 65 (.app 1 58 64),om 6 65] [.int,.int,.int,.int,.int,.int,.str,.str] false) (.region [om 66 6,om 67 3,om 68 5,oq 69 (.slc 1 67 (some 68) none),oq 70 (.app 1 66 69),om 3 70] [.int,.int,.int,.int,.str] false))))))))) (rg [om 11 4,oq 12 (.bin .int .add 11 (ci 1)),om 4 12]))))) (.seq (rg [om 71 3,om 2 71]) (.ret)))) 
def lz:TFunc:=⟨1,72,[.tmp 2],false,mo,[]⟩
def zeo (a0:LN) (x1:((List ByteArray)×Int)) (x3:Int):Option (LR Int (Sum (List ByteArray) (LR ((List ByteArray)×Int) (List ByteArray)))) :=
 jn (σ:=Bool) (α:=(LR Int (Sum (List ByteArray) (LR ((List ByteArray)×Int) (List ByteArray))))) (br (decide (x3 < (x1.1.length:Int)))
 (bno (zl x1.1 x3) fun y4 =>
 bno (zl a0 x1.2) fun y5 =>
 zt (some (Op.bytesLess (ByteArray.toList y4) (ByteArray.toList (Node.name y5)))))
 (zt (some false))) fun x6 =>
 br x6
 (nxO (some (wi (x3+(1:Int)))))
 (dnO (some x3))
def zgx (a0:LN) (x1:((List ByteArray)×Int)):Option (LR ((List ByteArray)×Int) (List ByteArray)) :=
 br (decide (x1.2 < (a0.length:Int)))
 (jn (σ:=(List ByteArray)) (α:=(LR ((List ByteArray)×Int) (List ByteArray))) (bno (zl a0 x1.2) fun y2 =>
 br (decide (¬ (Node.op y2)=(2:Int)))
 (zt (some x1.1))
 (lp (zeo a0 x1) (0:Int) fun x7 =>
 jn (σ:=Bool) (α:=(Sum (List ByteArray) (LR ((List ByteArray)×Int) (List ByteArray)))) (br (decide (x7 < (x1.1.length:Int)))
 (bno (zl x1.1 x7) fun y8 =>
 bno (zl a0 x1.2) fun y9 =>
 zt (some (decide (y8=(Node.name y9)))))
 (zt (some false))) fun bg =>
 br bg
 (zt (some x1.1))
 (ck (decide (0<=(0:Int)∧(0:Int)<=x7∧x7<=(x1.1.length:Int))) <|
 ck (decide (List.length (List.take (Int.toNat x7 - Int.toNat (0:Int)) (List.drop (Int.toNat (0:Int)) x1.1))<=zu)) <|
 bno (zl a0 x1.2) fun cS =>
 ck (decide (List.length (List.take (Int.toNat x7 - Int.toNat (0:Int)) (List.drop (Int.toNat (0:Int)) x1.1))+List.length ([Node.name cS]:List ByteArray)<=zu)) <|
 ck (decide (0<=x7∧x7<=(x1.1.length:Int)∧(x1.1.length:Int)<=(x1.1.length:Int))) <|
 ck (decide (List.length ((List.take (Int.toNat x7 - Int.toNat (0:Int)) (List.drop (Int.toNat (0:Int)) x1.1))++([Node.name cS]:List ByteArray))+List.length (List.take (Int.toNat (x1.1.length:Int) - Int.toNat x7) (List.drop (Int.toNat x7) x1.1))<=zu)) <|
 zt (some (((List.take (Int.toNat x7 - Int.toNat (0:Int)) (List.drop (Int.toNat (0:Int)) x1.1))++([Node.name cS]:List ByteArray))++(List.take (Int.toNat (x1.1.length:Int) - Int.toNat x7) (List.drop (Int.toNat x7) x1.1))))))) fun fO =>
 nxO (some (fO,wi (x1.2+(1:Int)))))
 (dnO (some (x1.1,x1.2)))
def S243 (a0:LN):Option (List ByteArray) :=
 lp (zgx a0) (([]:List ByteArray),(0:Int)) fun gW =>
 some gW.1
def P243:=S243
def iv:CSpec:=⟨243,[(.sl .node)],(.sl .str),fun x=>P243 x,false,[]⟩
def pL {S:Seat} (h:Ok1 S 243 lz):RtF S [] (Rt S iv):=okr h rfl fun x=>by kernel_rfl
def mm:TCode:=.seq (rg [om 4 (ci 0)]) (.seq (.seq (rg [om 5 (ci 0)]) (.loop ⟨[.slot 5 .int],[6,7,8,9,10,11,12,13,14,15,16,17],[],[]⟩ 0 (.seq (.seq (rg [om 6 5,om 7 0,oq 8 (.len false 7),oq 9 (.bin .int .lss 6 8)]) (.cond 9 (.skip) (.exit 0))) (.seq (.block 1 (.seq (rg [om 12 0,om 13 5,oq 14 (.ia 1 12 13),oq 15 (.load none 14),om 16 1,oq 17 (.bin .str .eql 15 16)]) (.cond 17 (.seq (rg [om 18 5,om 4 18]) (.ret)) (.skip)))) (rg [om 10 5,oq 11 (.bin .int .add 10 (ci 1)),om 5 11]))))) (.seq (rg [om 4 (ci (-1))]) (.ret))) 
def lu:TFunc:=⟨2,19,[.tmp 4],false,mm,[]⟩
def ziZ (a0:(List ByteArray)) (a1:ByteArray) (x1:Int):Option (LR Int Int) :=
 br (decide (x1 < (a0.length:Int)))
 (bno (zl a0 x1) fun y2 =>
 br (decide (y2=a1))
 (qX (some x1))
 (nxO (some (wi (x1+(1:Int))))))
 (dnO (some x1))
def S291 (a0:(List ByteArray)) (a1:ByteArray):Option Int :=
 lp (ziZ a0 a1) (0:Int) fun x3 =>
 some (-1:Int)
def P291:=S291
def eQ:CSpec:=⟨291,[(.sl .str),.str],.int,fun x=>P291 x.1 x.2,false,[]⟩
def pI {S:Seat} (h:Ok1 S 291 lu):RtF S [] (Rt S eQ):=okr h rfl fun x=>by kernel_rfl
def ml:TCode:=.seq (rg [oq 8 (.alloc [.int .i64 0,.int .i64 0])]) (.seq (rg [om 12 0,om 13 1,oq 14 (.ia 5 12 13),oq 15 (.load (some 5) 14),oq 9 (.alloc [.int .i64 0,.int .i64 0,.string ⟨#[]⟩,.int .i64 0,.int .i64 0]),on (.store 5 9 15)]) (.seq (.seq (rg [oq 16 (.fa 0 9),oq 17 (.load none 16),oq 18 (.bin .int .eql 17 (ci 1))]) (.cond 18 (.seq (rg [oq 19 (.fa 1 9),oq 20 (.load none 19),oq 21 (.call false [] 150 [20]),on (.store 2 8 21)]) (.ret)) (.skip))) (.seq (.seq (rg [oq 22 (.fa 0 9),oq 23 (.load none 22),oq 24 (.bin .int .eql 23 (ci 2))]) (.cond 24 (.seq (rg [om 25 3,om 26 2,oq 27 (.fa 2 9),oq 28 (.load none 27),oq 29 (.call false [] 291 [26,28]),oq 30 (.ia 2 25 29),oq 31 (.load (some 2) 30),on (.store 2 8 31)]) (.ret)) (.skip))) (.seq (rg [om 32 0,oq 33 (.fa 3 9),oq 34 (.load none 33),om 35 2,om 36 3,oq 37 (.call false [] 292 [32,34,35,36]),oq 10 (.alloc [.int .i64 0,.int .i64 0]),on (.store 2 10 37)]) (.seq (rg [om 38 0,oq 39 (.fa 4 9),oq 40 (.load none 39),om 41 2,om 42 3,oq 43 (.call false [] 292 [38,40,41,42]),oq 11 (.alloc [.int .i64 0,.int .i64 0]),on (.store 2 11 43)]) (.seq (.seq (rg [oq 44 (.fa 0 9),oq 45 (.load none 44)]) (.block 0 (.seq (rg [oq 47 (.bin .int .eql 45 (ci 3)),om 46 47]) (.cond 46 (.seq (rg [oq 48 (.load (some 2) 10),oq 49 (.load (some 2) 11),oq 50 (.call false [] 146 [48,49,(ci 1)]),on (.store 2 8 50)]) (.ret)) (.seq (rg [oq 52 (.bin .int .eql 45 (ci 4)),om 51 52]) (.cond 51 (.seq (rg [oq 53 (.load (some 2) 10),oq 54 (.load (some 2) 11),oq 55 (.call false [] 146 [53,54,(ci (-1))]),on (.store 2 8 55)]) (.ret)) (.seq (rg [oq 57 (.bin .int .eql 45 (ci 5)),om 56 57]) (.cond 56 (.seq (rg [oq 58 (.load (some 2) 10),oq 59 (.load (some 2) 11),oq 60 (.call false [] 147 [58,59]),on (.store 2 8 60)]) (.ret)) (.skip))))))))) (.seq (rg [oq 61 (.load (some 2) 10),oq 62 (.load (some 2) 11),oq 63 (.call false [] 148 [61,62]),on (.store 2 8 63)]) (.ret)))))))) 
def eN:TFunc:=⟨4,64,[.cell 8 (some 2)],false,ml,[]⟩
def S292 (a0:LN) (a1:Int) (a2:(List ByteArray)) (a3:LC):Option Cell :=
 bno (zl a0 a1) fun y1 =>
 br (decide ((Node.op y1)=(1:Int)))
 (bno (F150 (Node.n y1)) fun y2 =>
 some y2)
 (br (decide ((Node.op y1)=(2:Int)))
 (bno (F291 a2 (Node.name y1)) fun y3 =>
 bno (zl a3 y3) fun y4 =>
 some y4)
 (bno (F292 a0 (Node.left y1) a2 a3) fun y5 =>
 bno (F292 a0 (Node.right y1) a2 a3) fun y6 =>
 br (decide ((Node.op y1)=(3:Int)))
 (bno (F146 y5 y6 (1:Int)) fun y7 =>
 some y7)
 (br (decide ((Node.op y1)=(4:Int)))
 (bno (F146 y5 y6 (-1:Int)) fun y8 =>
 some y8)
 (br (decide ((Node.op y1)=(5:Int)))
 (bno (F147 y5 y6) fun y9 =>
 some y9)
 (bno (F148 y5 y6) fun dw =>
 some dw)))))
def pd (a0:(List Node)) (a1:Int) (a2:(List ByteArray)) (a3:(List Cell)):eN.run [⟨146,[(.st .cell),(.st .cell),.int],(.st .cell),fun x=>F146 x.1 x.2.1 x.2.2,false,[]⟩,
 ⟨147,[(.st .cell),(.st .cell)],(.st .cell),fun x=>F147 x.1 x.2,false,[]⟩,
 ⟨148,[(.st .cell),(.st .cell)],(.st .cell),fun x=>F148 x.1 x.2,false,[]⟩,
 ⟨150,[.int],(.st .cell),fun x=>F150 x,false,[]⟩,
 ⟨291,[(.sl .str),.str],.int,fun x=>F291 x.1 x.2,false,[]⟩,
 ⟨292,[(.sl .node),.int,(.sl .str),(.sl .cell)],(.st .cell),fun x=>F292 x.1 x.2.1 x.2.2.1 x.2.2.2,false,[]⟩] [(.sl .node),.int,(.sl .str),(.sl .cell)] (.st .cell) (a0,a1,a2,a3)=S292 F146 F147 F148 F150 F291 F292 a0 a1 a2 a3:=by kernel_rfl
def zhT:Nat->((List Node))->(Int)->((List ByteArray))->((List Cell))->Option Cell
 | 0=>fun _ _ _ _=>none
 | i+1=>fun a0 a1 a2 a3=>S292 P146 P147 P148 P150 P291 (zhT i) a0 a1 a2 a3
def k292n (i:Nat):CSpec:=⟨292,[(.sl .node),.int,(.sl .str),(.sl .cell)],(.st .cell),fun x=>zhT i x.1 x.2.1 x.2.2.1 x.2.2.2,false,[]⟩
def r292n {S:Seat} (h:Ok1 S 292 eN) (gx:Rt S eo) (gw:Rt S eS) (gv:Rt S eR) (gu:Rt S dc) (gr:Rt S eQ):∀ i,Rt S (k292n i)
 | 0=>fun x y hy=>(by cases hy)
 | i+1=>fun x y hy =>
  have tb:=r292n h gx gw gv gu gr i
  Ok1.sound h (C:=[eo,eS,eR,dc,eQ,(k292n i)]) (qy.cons gx (qy.cons gw (qy.cons gv (qy.cons gu (qy.cons gr (qy.cons tb qy.nil)))))) rfl rfl rfl ((pd P146 P147 P148 P150 P291 (zhT i) x.1 x.2.1 x.2.2.1 x.2.2.2).trans hy) rfl
def P292 (a0:(List Node)) (a1:Int) (a2:(List ByteArray)) (a3:(List Cell)):Option Cell:=zhT ((Int.toNat a1)+1) a0 a1 a2 a3
def iu:CSpec:=⟨292,[(.sl .node),.int,(.sl .str),(.sl .cell)],(.st .cell),fun x=>P292 x.1 x.2.1 x.2.2.1 x.2.2.2,false,[]⟩
def pH {S:Seat} (h:Ok1 S 292 eN) (gx:Rt S eo) (gw:Rt S eS) (gv:Rt S eR) (gu:Rt S dc) (gr:Rt S eQ):Rt S iu:=fun x y hy=>r292n h gx gw gv gu gr ((Int.toNat x.2.1)+1) x y hy
end
end
end Ab
