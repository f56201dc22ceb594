import Derived.Test.YtkaifdgeigdbhaaGreatDoorC1
set_option linter.all false
noncomputable section
namespace Ab
open Go
section
set_option maxRecDepth 100000
section
variable (F100:Dim->Int->(Option LI)) (F102:Dim->Int->(Option Bool)) (F103:Dim->Int->Int->(Option (Int×Bool))) (F106:LD->(Option Int)) (F95:Dim->(Option (Int×Int))) (F96:Dim->ByteArray->(Option Int)) (F97:ByteArray->(Option Int))
def tc106:TCode:=.seq (rg [oq 1 (.box 0),om 2 (ci 0)]) (.seq (rg [om 3 (ci 1)]) (.seq (.seq (rg [om 4 (ci 0)]) (.loop ⟨[.slot 3 .int,.slot 4 .int],[5,6,7,8,9,10,11,12,13,14,15,16,17,18,19,20],[],[]⟩ 0 (.seq (.seq (rg [om 5 4,oq 6 (.fa 0 1),oq 7 (.load none 6),oq 8 (.len false 7),oq 9 (.bin .int .lss 5 8)]) (.cond 9 (.skip) (.exit 0))) (.seq (.block 1 (rg [om 12 3,oq 13 (.fa 0 1),oq 14 (.load none 13),om 15 4,oq 16 (.ia 3 14 15),oq 17 (.fa 2 16),oq 18 (.load none 17),oq 19 (.len false 18),oq 20 (.bin .int .mul 12 19),om 3 20])) (rg [om 10 4,oq 11 (.bin .int .add 10 (ci 1)),om 4 11]))))) (.seq (rg [om 21 3,om 2 21]) (.ret)))) 
def tf106:TFunc:=⟨1,22,[.tmp 2],false,tc106,[]⟩
def zeU (a0:LD) (x1:(Int×Int)):Option (LR (Int×Int) Int) :=
 br (decide (x1.2 < (a0.length:Int)))
 (bno (zo a0 x1.2) fun y2 =>
 nxO (some (wi (x1.1 * ((Dim.members y2).length:Int)),wi (x1.2+(1:Int)))))
 (dnO (some (x1.1,x1.2)))
def S106 (a0:LD):Option Int :=
 lp (zeU a0) ((1:Int),(0:Int)) fun x3 =>
 some x3.1
def P106:=S106
def k106:CSpec:=⟨106,[(.st .outl)],.int,fun x=>P106 x,false,[]⟩
def r106 {S:Seat} (h:Ok1 S 106 tf106):RtF S [] (Rt S k106):=okr h rfl fun x=>by kernel_rfl
def tc96:TCode:=.seq (rg [oq 2 (.box 0),om 4 (ci 0)]) (.seq (.seq (rg [om 5 (ci 0)]) (.loop ⟨[.slot 5 .int],[6,7,8,9,10,11,12,13,14,15,16,17,18,19,20],[],[]⟩ 0 (.seq (.seq (rg [om 6 5,oq 7 (.fa 2 2),oq 8 (.load none 7),oq 9 (.len false 8),oq 10 (.bin .int .lss 6 9)]) (.cond 10 (.skip) (.exit 0))) (.seq (.block 1 (.seq (rg [oq 13 (.fa 2 2),oq 14 (.load none 13),om 15 5,oq 16 (.ia 4 14 15),oq 17 (.fa 0 16),oq 18 (.load none 17),om 19 1,oq 20 (.bin .str .eql 18 19)]) (.cond 20 (.seq (rg [om 21 5,om 4 21]) (.ret)) (.skip)))) (rg [om 11 5,oq 12 (.bin .int .add 11 (ci 1)),om 5 12]))))) (.seq (rg [om 4 (ci (-1))]) (.ret))) 
def tf96:TFunc:=⟨2,22,[.tmp 4],false,tc96,[]⟩
def S96_L1 (a0:Dim) (a1:ByteArray) (x1:Int):Option (LR Int Int) :=
 br (decide (x1 < ((Dim.members a0).length:Int)))
 (bno (zo (Dim.members a0) x1) fun y2 =>
 br (decide ((Member.name y2)=a1))
 (qP (some x1))
 (nxO (some (wi (x1+(1:Int))))))
 (dnO (some x1))
def S96 (a0:Dim) (a1:ByteArray):Option Int :=
 lp (S96_L1 a0 a1) (0:Int) fun x3 =>
 some (-1:Int)
def P96:=S96
def k96:CSpec:=⟨96,[(.st .dim),.str],.int,fun x=>P96 x.1 x.2,false,[]⟩
def r96 {S:Seat} (h:Ok1 S 96 tf96):RtF S [] (Rt S k96):=okr h rfl fun x=>by kernel_rfl
def tc97:TCode:=.seq (rg [om 2 (ci 0)]) (.seq (.seq (.regionJ ⟨[.slot 10 .bool],[4,5,6,7,8,9],[],[]⟩ [om 4 0,oq 5 (.bin .str .eql 4 (cs ⟨#[]⟩)),om 6 5,og 7 (.mov 0) 6 false [],og 8 (.len true 7) 6 false [],og 9 (.bin .int .gtr 8 (ci 8)) 6 false [],oq 10 (.pick 6 (cb true) 9)] [] false) (.cond 10 (.seq (rg [om 2 (ci 2)]) (.ret)) (.skip))) (.seq (.seq (rg [om 3 (ci 0)]) (.loop ⟨[.slot 3 .int],[11,12,13,14,15,16,17,18,19,20,21,22,23,24,25,26],[],[]⟩ 0 (.seq (.seq (rg [om 11 3,om 12 0,oq 13 (.len true 12),oq 14 (.bin .int .lss 11 13)]) (.cond 14 (.skip) (.exit 0))) (.seq (.block 1 (.seq (.regionJ ⟨[.slot 26 .bool],[17,18,19,20,21,22,23,24,25],[],[]⟩ [om 17 0,om 18 3,oq 19 (.ix 17 18),oq 20 (.bin .int .lss 19 (.c (.int .u8 97))),om 21 20,og 22 (.mov 0) 21 false [],og 23 (.mov 3) 21 false [],og 24 (.ix 22 23) 21 false [],og 25 (.bin .int .gtr 24 (.c (.int .u8 122))) 21 false [],oq 26 (.pick 21 (cb true) 25)] [] false) (.cond 26 (.seq (rg [om 2 (ci 2)]) (.ret)) (.skip)))) (rg [om 15 3,oq 16 (.bin .int .add 15 (ci 1)),om 3 16]))))) (.seq (rg [om 2 (ci 0)]) (.ret)))) 
def tf97:TFunc:=⟨1,27,[.tmp 2],false,tc97,[]⟩
def S97_L1 (a0:ByteArray) (x2:Int):Option (LR Int Int) :=
 br (decide (x2 < ((ByteArray.size a0:Nat):Int)))
 (jn (σ:=Bool) (α:=(LR Int Int)) (bno (zo (ByteArray.data a0).toList x2) fun y3 =>
 br (decide (((UInt8.toNat y3:Nat):Int) < (97:Int)))
 (zq (some true))
 (bno (zo (ByteArray.data a0).toList x2) fun y4 =>
 zq (some (decide ((122:Int) < ((UInt8.toNat y4:Nat):Int)))))) fun x5 =>
 br x5
 (qP (some (2:Int)))
 (nxO (some (wi (x2+(1:Int))))))
 (dnO (some x2))
def S97 (a0:ByteArray):Option Int :=
 jn (σ:=Bool) (α:=Int) (br (decide (a0=(⟨#[]⟩:ByteArray)))
 (zq (some true))
 (zq (some (decide ((8:Int) < ((ByteArray.size a0:Nat):Int)))))) fun x1 =>
 br x1
 (some (2:Int))
 (lp (S97_L1 a0) (0:Int) fun x6 =>
 some (0:Int))
def P97:=S97
def k97:CSpec:=⟨97,[.str],.int,fun x=>P97 x,false,[]⟩
def r97 {S:Seat} (h:Ok1 S 97 tf97):RtF S [] (Rt S k97):=okr h rfl fun x=>by kernel_rfl
def tc95:TCode:=.seq (rg [oq 1 (.box 0),om 2 (ci 0),om 3 (ci 0)]) (.seq (.seq (rg [oq 6 (.fa 0 1),oq 7 (.load none 6),oq 8 (.call false [] 97 [7]),oq 9 (.bin .int .neq 8 (ci 0))]) (.cond 9 (.seq (rg [om 2 (ci (-1)),om 3 (ci 2)]) (.ret)) (.skip))) (.seq (.seq (.regionJ ⟨[.slot 17 .bool],[10,11,12,13,14,15,16],[],[]⟩ [oq 10 (.fa 1 1),oq 11 (.load none 10),oq 12 (.bin .int .lss 11 (ci 0)),om 13 12,og 14 (.fa 1 1) 13 false [],og 15 (.load none 14) 13 false [],og 16 (.bin .int .gtr 15 (ci 9)) 13 false [],oq 17 (.pick 13 (cb true) 16)] [] false) (.cond 17 (.seq (rg [om 2 (ci (-1)),om 3 (ci 1)]) (.ret)) (.skip))) (.seq (.seq (rg [oq 18 (.fa 2 1),oq 19 (.load none 18),oq 20 (.len false 19),oq 21 (.bin .int .gtr 20 (ci 12))]) (.cond 21 (.seq (rg [om 2 (ci (-1)),om 3 (ci 4)]) (.ret)) (.skip))) (.seq (.seq (rg [oq 22 (.fa 2 1),oq 23 (.load none 22),oq 24 (.len false 23),oq 25 (.bin .int .eql 24 (ci 0))]) (.cond 25 (.seq (rg [om 2 (ci (-1)),om 3 (ci 5)]) (.ret)) (.skip))) (.seq (.seq (rg [om 4 (ci 0)]) (.loop ⟨[.slot 4 .int],[5,26,27,28,29,30,31,32,33,34,35,36,37,38,39,40,41,43,44,45,46,47,48,50,51,52,53,54,55,56,57,58,60,61,62,63,64,65,66,67,68,69,70,71,72,74,75,76,77,78,79,80,81,83,84,85,86],[5],[]⟩ 0 (.seq (.seq (rg [om 26 4,oq 27 (.fa 2 1),oq 28 (.load none 27),oq 29 (.len false 28),oq 30 (.bin .int .lss 26 29)]) (.cond 30 (.skip) (.exit 0))) (.seq (.block 1 (.seq (rg [oq 33 (.fa 2 1),oq 34 (.load none 33),om 35 4,oq 36 (.ia 4 34 35),oq 37 (.load (some 4) 36),oq 5 (.alloc [.string ⟨#[]⟩,.int .i64 0,.int .i64 0,.string ⟨#[]⟩]),on (.store 4 5 37)]) (.seq (.seq (rg [oq 38 (.fa 0 5),oq 39 (.load none 38),oq 40 (.call false [] 97 [39]),oq 41 (.bin .int .neq 40 (ci 0))]) (.cond 41 (.seq (rg [om 42 4,om 2 42,om 3 (ci 2)]) (.ret)) (.skip))) (.seq (.seq (rg [oq 43 (.load (some 3) 1),oq 44 (.fa 0 5),oq 45 (.load none 44),oq 46 (.call false [] 96 [43,45]),om 47 4,oq 48 (.bin .int .lss 46 47)]) (.cond 48 (.seq (rg [om 49 4,om 2 49,om 3 (ci 7)]) (.ret)) (.skip))) (.seq (.seq (.regionJ ⟨[.slot 58 .bool],[50,51,52,53,54,55,56,57],[],[]⟩ [oq 50 (.fa 1 5),oq 51 (.load none 50),oq 52 (.bin .int .lss 51 (ci (-1))),om 53 52,og 54 (.fa 1 5) 53 false [],og 55 (.load none 54) 53 false [],og 56 (.mov 4) 53 false [],og 57 (.bin .int .geq 55 56) 53 false [],oq 58 (.pick 53 (cb true) 57)] [] false) (.cond 58 (.seq (rg [om 59 4,om 2 59,om 3 (ci 1)]) (.ret)) (.skip))) (.seq (.seq (.regionJ ⟨[.slot 72 .bool],[60,61,62,63,64,65,66,67,68,69,70,71],[],[]⟩ [oq 60 (.fa 1 5),oq 61 (.load none 60),oq 62 (.bin .int .geq 61 (ci 0)),om 63 62,og 64 (.fa 2 1) 63 true [],og 65 (.load none 64) 63 true [],og 66 (.fa 1 5) 63 true [],og 67 (.load none 66) 63 true [],og 68 (.ia 4 65 67) 63 true [],og 69 (.fa 3 68) 63 true [],og 70 (.load none 69) 63 true [],og 71 (.bin .str .neq 70 (cs ⟨#[]⟩)) 63 true [],oq 72 (.pick 63 71 (cb false))] [] false) (.cond 72 (.seq (rg [om 73 4,om 2 73,om 3 (ci 6)]) (.ret)) (.skip))) (.seq (.seq (.regionJ ⟨[.slot 81 .bool],[74,75,76,77,78,79,80],[],[]⟩ [oq 74 (.fa 2 5),oq 75 (.load none 74),oq 76 (.bin .int .lss 75 (ci (-1))),om 77 76,og 78 (.fa 2 5) 77 false [],og 79 (.load none 78) 77 false [],og 80 (.bin .int .gtr 79 (ci 1)) 77 false [],oq 81 (.pick 77 (cb true) 80)] [] false) (.cond 81 (.seq (rg [om 82 4,om 2 82,om 3 (ci 1)]) (.ret)) (.skip))) (.seq (rg [oq 83 (.fa 3 5),oq 84 (.load none 83),oq 85 (.len true 84),oq 86 (.bin .int .gtr 85 (ci 100))]) (.cond 86 (.seq (rg [om 87 4,om 2 87,om 3 (ci 4)]) (.ret)) (.skip)))))))))) (rg [om 31 4,oq 32 (.bin .int .add 31 (ci 1)),om 4 32]))))) (.seq (rg [om 2 (ci (-1)),om 3 (ci 0)]) (.ret))))))) 
def tf95:TFunc:=⟨1,88,[.tmp 2,.tmp 3],false,tc95,[]⟩
def zkn (a0:Dim) (x3:Int):Option (LR Int (Int×Int)) :=
 br (decide (x3 < ((Dim.members a0).length:Int)))
 (bno (zo (Dim.members a0) x3) fun y4 =>
 bno (F97 (Member.name y4)) fun y5 =>
 br (decide (¬ y5=(0:Int)))
 (qP (some (x3,(2:Int))))
 (bno (F96 a0 (Member.name y4)) fun y6 =>
 br (decide (y6 < x3))
 (qP (some (x3,(7:Int))))
 (jn (σ:=Bool) (α:=(LR Int (Int×Int))) (br (decide ((Member.parent y4) < (-1:Int)))
 (zq (some true))
 (zq (some (decide (x3<=(Member.parent y4)))))) fun x7 =>
 br x7
 (qP (some (x3,(1:Int))))
 (jn (σ:=Bool) (α:=(LR Int (Int×Int))) (br (decide ((0:Int)<=(Member.parent y4)))
 (bno (zo (Dim.members a0) (Member.parent y4)) fun y8 =>
 zq (some (decide (¬ (Member.formula y8)=(⟨#[]⟩:ByteArray)))))
 (zq (some false))) fun x9 =>
 br x9
 (qP (some (x3,(6:Int))))
 (jn (σ:=Bool) (α:=(LR Int (Int×Int))) (br (decide ((Member.sign y4) < (-1:Int)))
 (zq (some true))
 (zq (some (decide ((1:Int) < (Member.sign y4)))))) fun bn =>
 br bn
 (qP (some (x3,(1:Int))))
 (br (decide ((100:Int) < ((ByteArray.size (Member.formula y4):Nat):Int)))
 (qP (some (x3,(4:Int))))
 (nxO (some (wi (x3+(1:Int)))))))))))
 (dnO (some x3))
def S95 (a0:Dim):Option (Int×Int) :=
 bno (F97 (Dim.name a0)) fun y1 =>
 br (decide (¬ y1=(0:Int)))
 (some ((-1:Int),(2:Int)))
 (jn (σ:=Bool) (α:=(Int×Int)) (br (decide ((Dim.solve a0) < (0:Int)))
 (zq (some true))
 (zq (some (decide ((9:Int) < (Dim.solve a0)))))) fun x2 =>
 br x2
 (some ((-1:Int),(1:Int)))
 (br (decide ((12:Int) < ((Dim.members a0).length:Int)))
 (some ((-1:Int),(4:Int)))
 (br (decide (((Dim.members a0).length:Int)=(0:Int)))
 (some ((-1:Int),(5:Int)))
 (lp (zkn F96 F97 a0) (0:Int) fun cI =>
 some ((-1:Int),(0:Int))))))
def P95:=S95 P96 P97
def k95:CSpec:=⟨95,[(.st .dim)],(.tp [.int,.int]),fun x=>P95 x,false,[]⟩
def r95 {S:Seat} (h:Ok1 S 95 tf95):RtF S [k96,k97] (Rt S k95):=okr h rfl fun x=>by kernel_rfl
def tc94:TCode:=.seq (rg [oq 1 (.box 0),om 2 (ci 0),om 3 (ci 0),om 4 (ci 0)]) (.seq (.seq (rg [oq 9 (.fa 0 1),oq 10 (.load none 9),oq 11 (.len false 10),oq 12 (.bin .int .gtr 11 (ci 4))]) (.cond 12 (.seq (rg [om 2 (ci (-1)),om 3 (ci (-1)),om 4 (ci 4)]) (.ret)) (.skip))) (.seq (.seq (rg [oq 13 (.fa 0 1),oq 14 (.load none 13),oq 15 (.len false 14),oq 16 (.bin .int .eql 15 (ci 0))]) (.cond 16 (.seq (rg [om 2 (ci (-1)),om 3 (ci (-1)),om 4 (ci 5)]) (.ret)) (.skip))) (.seq (.seq (rg [om 5 (ci 0)]) (.loop ⟨[.slot 5 .int],[6,7,8,17,18,19,20,21,22,23,24,25,26,27,28,29,30,31,32,33,34,35,36,37,38,39,40,41,42,43,44,45,46,47,48,49,50,51,52,53,54,55,56],[],[]⟩ 0 (.seq (.seq (rg [om 17 5,oq 18 (.fa 0 1),oq 19 (.load none 18),oq 20 (.len false 19),oq 21 (.bin .int .lss 17 20)]) (.cond 21 (.skip) (.exit 0))) (.seq (.block 1 (.seq (rg [oq 25 (.fa 0 1),oq 26 (.load none 25),om 27 5,oq 28 (.ia 3 26 27),oq 29 (.load (some 3) 28),oq 30 (.call false [] 95 [29]),om 24 30,oq 31 (.ext 24 0),oq 32 (.ext 24 1),om 6 31,om 7 32]) (.seq (.seq (rg [om 8 (ci 0)]) (.loop ⟨[.slot 7 .int,.slot 8 .int],[33,34,35,36,37,38,39,40,41,42,43,44,45,46,47,48,49,50,51,52,53,54],[],[]⟩ 2 (.seq (.seq (.regionJ ⟨[.slot 39 .bool],[33,34,35,36,37,38],[],[]⟩ [om 33 8,om 34 5,oq 35 (.bin .int .lss 33 34),om 36 35,og 37 (.mov 7) 36 true [],og 38 (.bin .int .eql 37 (ci 0)) 36 true [],oq 39 (.pick 36 38 (cb false))] [] false) (.cond 39 (.skip) (.exit 2))) (.seq (.block 3 (.seq (.region [oq 42 (.fa 0 1),od 43 (.load none 42) [0],om 44 8,od 45 (.ia 3 43 44) [1,2],od 46 (.fa 0 45) [3],od 47 (.load none 46) [4],oq 48 (.fa 0 1),od 49 (.load none 48) [6],om 50 5,od 51 (.ia 3 49 50) [7,8],od 52 (.fa 0 51) [9],od 53 (.load none 52) [10],od 54 (.bin .str .eql 47 53) [5,11]] [] true) (.condJ ⟨[.slot 7 .int],[],[],[]⟩ 54 (rg [om 7 (ci 7)]) (.skip)))) (rg [om 40 8,oq 41 (.bin .int .add 40 (ci 1)),om 8 41]))))) (.seq (rg [om 55 7,oq 56 (.bin .int .neq 55 (ci 0))]) (.cond 56 (.seq (rg [om 57 5,om 58 6,om 59 7,om 2 57,om 3 58,om 4 59]) (.ret)) (.skip)))))) (rg [om 22 5,oq 23 (.bin .int .add 22 (ci 1)),om 5 23]))))) (.seq (.seq (rg [oq 60 (.load (some 1) 1),oq 61 (.call false [] 106 [60]),oq 62 (.bin .int .gtr 61 (ci 3000))]) (.cond 62 (.seq (rg [om 2 (ci (-1)),om 3 (ci (-1)),om 4 (ci 4)]) (.ret)) (.skip))) (.seq (rg [om 2 (ci (-1)),om 3 (ci (-1)),om 4 (ci 0)]) (.ret)))))) 
def tf94:TFunc:=⟨1,63,[.tmp 2,.tmp 3,.tmp 4],false,tc94,[]⟩
def zeE (a0:LD) (x1:Int) (x4:(Int×Int)):Option (LR (Int×Int) (LR Int (Int×Int×Int))) :=
 jn (σ:=Bool) (α:=(LR (Int×Int) (LR Int (Int×Int×Int)))) (br (decide (x4.2 < x1))
 (zq (some (decide (x4.1=(0:Int)))))
 (zq (some false))) fun x5 =>
 br x5
 (bno (zo a0 x4.2) fun y6 =>
 bno (zo a0 x1) fun y7 =>
 jn (σ:=Int) (α:=(LR (Int×Int) (LR Int (Int×Int×Int)))) (br (decide ((Dim.name y6)=(Dim.name y7)))
 (zq (some (7:Int)))
 (zq (some x4.1))) fun x8 =>
 nxO (some (x8,wi (x4.2+(1:Int)))))
 (dnO (some (x4.1,x4.2)))
def zko (a0:LD) (x1:Int):Option (LR Int (Int×Int×Int)) :=
 br (decide (x1 < (a0.length:Int)))
 (bno (zo a0 x1) fun y2 =>
 bno (F95 y2) fun y3 =>
 lp (zeE a0 x1) (y3.2,(0:Int)) fun x9 =>
 br (decide (¬ x9.1=(0:Int)))
 (qP (some (x1,y3.1,x9.1)))
 (nxO (some (wi (x1+(1:Int))))))
 (dnO (some x1))
def S94 (a0:LD):Option (Int×Int×Int) :=
 br (decide ((4:Int) < (a0.length:Int)))
 (some ((-1:Int),(-1:Int),(4:Int)))
 (br (decide ((a0.length:Int)=(0:Int)))
 (some ((-1:Int),(-1:Int),(5:Int)))
 (lp (zko F95 a0) (0:Int) fun bn =>
 bno (F106 a0) fun cC =>
 br (decide ((3000:Int) < cC))
 (some ((-1:Int),(-1:Int),(4:Int)))
 (some ((-1:Int),(-1:Int),(0:Int)))))
def P94:=S94 P106 P95
def k94:CSpec:=⟨94,[(.st .outl)],(.tp [.int,.int,.int]),fun x=>P94 x,false,[]⟩
def r94 {S:Seat} (h:Ok1 S 94 tf94):RtF S [k106,k95] (Rt S k94):=okr h rfl fun x=>by kernel_rfl
def tc100:TCode:=.seq (rg [oq 2 (.box 0),om 4 cn]) (.seq (rg [om 5 cn]) (.seq (.seq (rg [om 6 (ci 0)]) (.loop ⟨[.row 5 25 .int,.slot 6 .int],[7,8,9,10,11,12,13,14,15,16,17,18,19,20,21,22,23,24,25],[24],[]⟩ 0 (.seq (.seq (rg [om 7 6,oq 8 (.fa 2 2),oq 9 (.load none 8),oq 10 (.len false 9),oq 11 (.bin .int .lss 7 10)]) (.cond 11 (.skip) (.exit 0))) (.seq (.block 1 (.seq (rg [oq 14 (.fa 2 2),oq 15 (.load none 14),om 16 6,oq 17 (.ia 4 15 16),oq 18 (.fa 1 17),oq 19 (.load none 18),om 20 1,oq 21 (.bin .int .eql 19 20)]) (.condJ ⟨[.row 5 25 .int],[22,23,24,25],[24],[]⟩ 21 (rg [om 22 5,om 23 6,oq 24 (.bslice false 1 [.int .i64 0] 1 [(0,23)]),oq 25 (.app 1 22 24),om 5 25]) (.skip)))) (rg [om 12 6,oq 13 (.bin .int .add 12 (ci 1)),om 6 13]))))) (.seq (rg [om 26 5,om 4 26]) (.ret)))) 
def tf100:TFunc:=⟨2,27,[.tmp 4],false,tc100,[]⟩
def zjp (a0:Dim) (a1:Int) (x1:(LI×Int)):Option (LR (LI×Int) LI) :=
 br (decide (x1.2 < ((Dim.members a0).length:Int)))
 (bno (zo (Dim.members a0) x1.2) fun y2 =>
 jn (σ:=(List Int)) (α:=(LR ((List Int)×Int) (List Int))) (br (decide ((Member.parent y2)=a1))
 (ck (decide (List.length x1.1+List.length ([x1.2]:List Int)<=zH)) <|
 zq (some (x1.1++([x1.2]:List Int))))
 (zq (some x1.1))) fun x3 =>
 nxO (some (x3,wi (x1.2+(1:Int)))))
 (dnO (some (x1.1,x1.2)))
def S100 (a0:Dim) (a1:Int):Option LI :=
 lp (zjp a0 a1) (([]:List Int),(0:Int)) fun x4 =>
 some x4.1
def P100:=S100
def k100:CSpec:=⟨100,[(.st .dim),.int],(.sl .int),fun x=>P100 x.1 x.2,false,[]⟩
def r100 {S:Seat} (h:Ok1 S 100 tf100):RtF S [] (Rt S k100):=okr h rfl fun x=>by kernel_rfl
def tc102:TCode:=.seq (rg [oq 2 (.box 0),om 4 (cb false)]) (.seq (.regionJ ⟨[.slot 4 .bool],[5,6,7,8,9,10,11,12,13,14,15,16,17,18],[],[]⟩ [oq 5 (.fa 2 2),oq 6 (.load none 5),om 7 1,oq 8 (.ia 4 6 7),oq 9 (.fa 3 8),oq 10 (.load none 9),oq 11 (.bin .str .eql 10 (cs ⟨#[]⟩)),om 12 11,og 13 (.load (some 3) 2) 12 true [],og 14 (.mov 1) 12 true [],og 15 (.call true [] 100 [13,14]) 12 true [],og 16 (.len false 15) 12 true [],og 17 (.bin .int .eql 16 (ci 0)) 12 true [],oq 18 (.pick 12 17 (cb false)),om 4 18] [] false) (.ret)) 
def tf102:TFunc:=⟨2,19,[.tmp 4],false,tc102,[]⟩
def S102 (a0:Dim) (a1:Int):Option Bool :=
 jn (σ:=Bool) (α:=Bool) (bno (zo (Dim.members a0) a1) fun y1 =>
 br (decide ((Member.formula y1)=(⟨#[]⟩:ByteArray)))
 (bno (F100 a0 a1) fun y2 =>
 zq (some (decide ((y2.length:Int)=(0:Int)))))
 (zq (some false))) fun x3 =>
 some x3
def P102:=S102 P100
def k102:CSpec:=⟨102,[(.st .dim),.int],.bool,fun x=>P102 x.1 x.2,false,[]⟩
def r102 {S:Seat} (h:Ok1 S 102 tf102):RtF S [k100] (Rt S k102):=okr h rfl fun x=>by kernel_rfl
def tc103:TCode:=.seq (rg [oq 3 (.box 0),om 6 (ci 0),om 7 (cb false)]) (.seq (rg [om 8 (ci 1)]) (.seq (.loop ⟨[.slot 2 .int,.slot 8 .int],[9,10,11,12,13,14,15,16,17,18,19,20,21,22,23,24,25,26,27],[],[]⟩ 0 (.seq (.seq (rg [om 9 2,om 10 1,oq 11 (.bin .int .neq 9 10)]) (.cond 11 (.skip) (.exit 0))) (.block 1 (.seq (.seq (rg [om 12 2,oq 13 (.bin .int .lss 12 (ci 0))]) (.cond 13 (.seq (rg [om 6 (ci 0),om 7 (cb false)]) (.ret)) (.skip))) (.seq (rg [om 14 8,oq 15 (.fa 2 3),oq 16 (.load none 15),om 17 2,oq 18 (.ia 4 16 17),oq 19 (.fa 2 18),oq 20 (.load none 19),oq 21 (.bin .int .mul 14 20),om 8 21]) (rg [oq 22 (.fa 2 3),oq 23 (.load none 22),om 24 2,oq 25 (.ia 4 23 24),oq 26 (.fa 1 25),oq 27 (.load none 26),om 2 27])))))) (.seq (rg [om 28 8,om 6 28,om 7 (cb true)]) (.ret)))) 
def tf103:TFunc:=⟨3,29,[.tmp 6,.tmp 7],false,tc103,[]⟩
def zaH (a0:Dim) (a1:Int) (x1:(Int×Int)):Option (LR (Int×Int) (Int×Bool)) :=
 br (decide (¬ x1.1=a1))
 (br (decide (x1.1 < (0:Int)))
 (qP (some ((0:Int),false)))
 (bno (zo (Dim.members a0) x1.1) fun y2 =>
 bno (zo (Dim.members a0) x1.1) fun y3 =>
 nxO (some (Member.parent y3,wi (x1.2 * (Member.sign y2))))))
 (dnO (some (x1.1,x1.2)))
def S103 (a0:Dim) (a1:Int) (a2:Int):Option (Int×Bool) :=
 lp (zaH a0 a1) (a2,(1:Int)) fun x4 =>
 some (x4.2,true)
def P103:=S103
def k103:CSpec:=⟨103,[(.st .dim),.int,.int],(.tp [.int,.bool]),fun x=>P103 x.1 x.2.1 x.2.2,false,[]⟩
def r103 {S:Seat} (h:Ok1 S 103 tf103):RtF S [] (Rt S k103):=okr h rfl fun x=>by kernel_rfl
end
end
section
set_option maxRecDepth 100000
section
variable (F102:Dim->Int->(Option Bool)) (F103:Dim->Int->Int->(Option (Int×Bool))) (F106:LD->(Option Int)) (F123:LD->LI->(Option Int)) (F125:LD->(Option Int)) (F129:LD->LI->LI->(Option (Int×Bool))) (F130:LD->LI->(Option Bool)) (F142:LD->Int->(Option LI)) (F151:LI->LI->(Option Bool)) (F94:LD->(Option (Int×Int×Int)))
def tc123:TCode:=.seq (rg [oq 2 (.box 0),om 4 (ci 0)]) (.seq (.seq (rg [om 6 1,oq 7 (.len false 6),oq 8 (.fa 0 2),oq 9 (.load none 8),oq 10 (.len false 9),oq 11 (.bin .int .neq 7 10)]) (.cond 11 (.seq (rg [om 4 (ci 3)]) (.ret)) (.skip))) (.seq (.seq (rg [om 5 (ci 0)]) (.loop ⟨[.slot 5 .int],[12,13,14,15,16,17,18,19,20,21,22,23,24,25,26,27,28,29,30,31,32,33,34,35,36],[],[]⟩ 0 (.seq (.seq (rg [om 12 5,om 13 1,oq 14 (.len false 13),oq 15 (.bin .int .lss 12 14)]) (.cond 15 (.skip) (.exit 0))) (.seq (.block 1 (.seq (.regionJ ⟨[.slot 36 .bool],[18,19,20,21,22,23,24,25,26,27,28,29,30,31,32,33,34,35],[],[]⟩ [om 18 1,om 19 5,od 20 (.ia 1 18 19) [0,1],od 21 (.load none 20) [2],od 22 (.bin .int .lss 21 (ci 0)) [3],od 23 (.mov 22) [4],og 24 (.mov 1) 23 false [5],og 25 (.mov 5) 23 false [5],og 26 (.ia 1 24 25) 23 false [6,7,5],og 27 (.load none 26) 23 false [8,5],og 28 (.fa 0 2) 23 false [5],og 29 (.load none 28) 23 false [10,5],og 30 (.mov 5) 23 false [5],og 31 (.ia 3 29 30) 23 false [11,12,5],og 32 (.fa 2 31) 23 false [13,5],og 33 (.load none 32) 23 false [14,5],og 34 (.len false 33) 23 false [15,5],og 35 (.bin .int .geq 27 34) 23 false [9,16,5],od 36 (.pick 23 (cb true) 35) [5,17]] [] true) (.cond 36 (.seq (rg [om 4 (ci 1)]) (.ret)) (.skip)))) (rg [om 16 5,oq 17 (.bin .int .add 16 (ci 1)),om 5 17]))))) (.seq (rg [om 4 (ci 0)]) (.ret)))) 
def tf123:TFunc:=⟨2,37,[.tmp 4],false,tc123,[]⟩
def zjm (a0:LD) (a1:LI) (x1:Int):Option (LR Int Int) :=
 br (decide (x1 < (a1.length:Int)))
 (jn (σ:=Bool) (α:=(LR Int Int)) (bno (zo a1 x1) fun y2 =>
 br (decide (y2 < (0:Int)))
 (zq (some true))
 (bno (zo a1 x1) fun y3 =>
 bno (zo a0 x1) fun y4 =>
 zq (some (decide (((Dim.members y4).length:Int)<=y3))))) fun x5 =>
 br x5
 (qP (some (1:Int)))
 (nxO (some (wi (x1+(1:Int))))))
 (dnO (some x1))
def S123 (a0:LD) (a1:LI):Option Int :=
 br (decide (¬ (a1.length:Int)=(a0.length:Int)))
 (some (3:Int))
 (lp (zjm a0 a1) (0:Int) fun x6 =>
 some (0:Int))
def P123:=S123
def k123:CSpec:=⟨123,[(.st .outl),(.sl .int)],.int,fun x=>P123 x.1 x.2,false,[]⟩
def r123 {S:Seat} (h:Ok1 S 123 tf123):RtF S [] (Rt S k123):=okr h rfl fun x=>by kernel_rfl
def tc125:TCode:=.seq (rg [oq 1 (.box 0),om 2 (ci 0)]) (.seq (rg [oq 7 (.load (some 1) 1),oq 8 (.call false [] 94 [7]),om 6 8,oq 9 (.ext 6 0),oq 10 (.ext 6 1),oq 11 (.ext 6 2),om 3 9,om 4 10,om 5 11]) (.seq (rg [om 12 5,om 2 12]) (.ret))) 
def tf125:TFunc:=⟨1,13,[.tmp 2],false,tc125,[]⟩
def S125 (a0:LD):Option Int :=
 bno (F94 a0) fun y1 =>
 some y1.2.2
def P125:=S125 P94
def k125:CSpec:=⟨125,[(.st .outl)],.int,fun x=>P125 x,false,[]⟩
def r125 {S:Seat} (h:Ok1 S 125 tf125):RtF S [k94] (Rt S k125):=okr h rfl fun x=>by kernel_rfl
def tc130:TCode:=.seq (rg [oq 2 (.box 0),om 4 (cb false)]) (.seq (.seq (rg [om 5 (ci 0)]) (.loop ⟨[.slot 5 .int],[6,7,8,9,10,11,12,13,14,15,16,17,18,19,20,21,22,23,24],[],[]⟩ 0 (.seq (.seq (rg [om 7 5,om 8 1,oq 9 (.len false 8),oq 10 (.bin .int .lss 7 9)]) (.cond 10 (.skip) (.exit 0))) (.seq (.block 1 (.seq (.region [oq 13 (.fa 0 2),od 14 (.load none 13) [0],om 15 5,od 16 (.ia 3 14 15) [1,2],od 17 (.load (some 3) 16) [3],om 18 1,om 19 5,od 20 (.ia 1 18 19) [5,6],od 21 (.load none 20) [7],od 22 (.call false [] 102 [17,21]) [4,8],od 6 (.mov 22) [9,9,0,1,2,3,4,5,6,7,8,9]] [] true) (.seq (rg [om 23 6,oq 24 (.un .not 23)]) (.cond 24 (.seq (rg [om 4 (cb false)]) (.ret)) (.skip))))) (rg [om 11 5,oq 12 (.bin .int .add 11 (ci 1)),om 5 12]))))) (.seq (rg [om 4 (cb true)]) (.ret))) 
def tf130:TFunc:=⟨2,25,[.tmp 4],false,tc130,[]⟩
def zjk (a0:LD) (a1:LI) (x1:Int):Option (LR Int Bool) :=
 br (decide (x1 < (a1.length:Int)))
 (bno (zo a0 x1) fun y2 =>
 bno (zo a1 x1) fun y3 =>
 bno (F102 y2 y3) fun y4 =>
 br (!y4)
 (qP (some false))
 (nxO (some (wi (x1+(1:Int))))))
 (dnO (some x1))
def S130 (a0:LD) (a1:LI):Option Bool :=
 lp (zjk F102 a0 a1) (0:Int) fun x5 =>
 some true
def P130:=S130 P102
def k130:CSpec:=⟨130,[(.st .outl),(.sl .int)],.bool,fun x=>P130 x.1 x.2,false,[]⟩
def r130 {S:Seat} (h:Ok1 S 130 tf130):RtF S [k102] (Rt S k130):=okr h rfl fun x=>by kernel_rfl
def tc151:TCode:=.seq (rg [om 4 (cb false)]) (.seq (.seq (rg [om 5 (ci 0)]) (.loop ⟨[.slot 5 .int],[6,7,8,9,10,11,12,13,14,15,16,17,18,19,20,21,22,23,24,25,26],[],[]⟩ 0 (.seq (.seq (.regionJ ⟨[.slot 15 .bool],[6,7,8,9,10,11,12,13,14],[],[]⟩ [om 6 5,om 7 0,oq 8 (.len false 7),oq 9 (.bin .int .lss 6 8),om 10 9,og 11 (.mov 5) 10 true [],og 12 (.mov 1) 10 true [],og 13 (.len false 12) 10 true [],og 14 (.bin .int .lss 11 13) 10 true [],oq 15 (.pick 10 14 (cb false))] [] false) (.cond 15 (.skip) (.exit 0))) (.seq (.block 1 (.seq (.region [om 18 0,om 19 5,od 20 (.ia 1 18 19) [0,1],od 21 (.load none 20) [2],om 22 1,om 23 5,od 24 (.ia 1 22 23) [4,5],od 25 (.load none 24) [6],od 26 (.bin .int .neq 21 25) [3,7]] [] true) (.cond 26 (.seq (.region [om 27 0,om 28 5,od 29 (.ia 1 27 28) [0,1],od 30 (.load none 29) [2],om 31 1,om 32 5,od 33 (.ia 1 31 32) [4,5],od 34 (.load none 33) [6],od 35 (.bin .int .lss 30 34) [3,7],od 4 (.mov 35) [8,0,1,2,3,4,5,6,7,8]] [] true) (.ret)) (.skip)))) (rg [om 16 5,oq 17 (.bin .int .add 16 (ci 1)),om 5 17]))))) (.seq (rg [om 36 0,oq 37 (.len false 36),om 38 1,oq 39 (.len false 38),oq 40 (.bin .int .lss 37 39),om 4 40]) (.ret))) 
def tf151:TFunc:=⟨2,41,[.tmp 4],false,tc151,[]⟩
def zcC (a0:LI) (a1:LI) (x1:Int):Option (LR Int Bool) :=
 jn (σ:=Bool) (α:=(LR Int Bool)) (br (decide (x1 < (a0.length:Int)))
 (zq (some (decide (x1 < (a1.length:Int)))))
 (zq (some false))) fun x2 =>
 br x2
 (bno (zo a0 x1) fun y3 =>
 bno (zo a1 x1) fun y4 =>
 br (decide (¬ y3=y4))
 (bno (zo a0 x1) fun y5 =>
 bno (zo a1 x1) fun y6 =>
 qP (some (decide (y5 < y6))))
 (nxO (some (wi (x1+(1:Int))))))
 (dnO (some x1))
def S151 (a0:LI) (a1:LI):Option Bool :=
 lp (zcC a0 a1) (0:Int) fun x7 =>
 some (decide ((a0.length:Int) < (a1.length:Int)))
def P151:=S151
def k151:CSpec:=⟨151,[(.sl .int),(.sl .int)],.bool,fun x=>P151 x.1 x.2,false,[]⟩
def r151 {S:Seat} (h:Ok1 S 151 tf151):RtF S [] (Rt S k151):=okr h rfl fun x=>by kernel_rfl
def tc122:TCode:=.seq (rg [oq 2 (.box 0),om 4 (ci 0)]) (.seq (rg [oq 9 (.load (some 1) 2),oq 10 (.call false [] 125 [9]),om 5 10]) (.seq (.seq (rg [om 11 5,oq 12 (.bin .int .neq 11 (ci 0))]) (.cond 12 (.seq (rg [om 13 5,om 4 13]) (.ret)) (.skip))) (.seq (.seq (rg [om 6 (ci 0)]) (.loop ⟨[.slot 6 .int],[5,7,8,14,15,16,17,18,19,20,21,22,23,24,25,26,27,28,30,31,32,33,34,35,36,37,38,39,40,41,42,43,44,45,46,47,48,49,50,51,52,53,54,55,56,57,58,59,60,61,62,63,64,65,66,67,68,69,70],[],[]⟩ 0 (.seq (.seq (rg [om 14 6,om 15 1,oq 16 (.len false 15),oq 17 (.bin .int .lss 14 16)]) (.cond 17 (.skip) (.exit 0))) (.seq (.block 1 (.seq (.region [oq 20 (.load (some 1) 2),om 21 1,om 22 6,od 23 (.ia 2 21 22) [1,2],od 24 (.fa 0 23) [3],od 25 (.load none 24) [4],od 26 (.call false [] 123 [20,25]) [0,5],od 5 (.mov 26) [6,6,0,1,2,3,4,5,6]] [] true) (.seq (.seq (rg [om 27 5,oq 28 (.bin .int .neq 27 (ci 0))]) (.cond 28 (.seq (rg [om 29 5,om 4 29]) (.ret)) (.skip))) (.seq (.region [oq 30 (.load (some 1) 2),om 31 1,om 32 6,od 33 (.ia 2 31 32) [1,2],od 34 (.fa 0 33) [3],od 35 (.load none 34) [4],od 36 (.call false [] 130 [30,35]) [0,5],od 7 (.mov 36) [6,6,0,1,2,3,4,5,6]] [] true) (.seq (.seq (rg [om 37 7,oq 38 (.un .not 37)]) (.cond 38 (.seq (rg [om 4 (ci 6)]) (.ret)) (.skip))) (.seq (.seq (.regionJ ⟨[.slot 52 .bool],[39,40,41,42,43,44,45,46,47,48,49,50,51],[],[]⟩ [om 39 1,om 40 6,oq 41 (.ia 2 39 40),oq 42 (.fa 1 41),oq 43 (.load none 42),oq 44 (.bin .int .lss 43 (ci (-1000000))),om 45 44,og 46 (.mov 1) 45 false [],og 47 (.mov 6) 45 false [],og 48 (.ia 2 46 47) 45 false [],og 49 (.fa 1 48) 45 false [],og 50 (.load none 49) 45 false [],og 51 (.bin .int .gtr 50 (ci 1000000)) 45 false [],oq 52 (.pick 45 (cb true) 51)] [] false) (.cond 52 (.seq (rg [om 4 (ci 1)]) (.ret)) (.skip))) (.seq (.regionJ ⟨[.slot 8 .bool],[53,54,55,56,57,58,59,60,61,62,63,64,65,66,67,68],[],[]⟩ [om 53 6,od 54 (.bin .int .eql 53 (ci 0)) [0],od 55 (.mov 54) [1],og 56 (.mov 1) 55 false [2],og 57 (.mov 6) 55 false [2],og 58 (.bin .int .sub 57 (ci 1)) 55 false [4,2],og 59 (.ia 2 56 58) 55 false [3,5,2],og 60 (.fa 0 59) 55 false [6,2],og 61 (.load none 60) 55 false [7,2],og 62 (.mov 1) 55 false [2],og 63 (.mov 6) 55 false [2],og 64 (.ia 2 62 63) 55 false [9,10,2],og 65 (.fa 0 64) 55 false [11,2],og 66 (.load none 65) 55 false [12,2],og 67 (.call false [] 151 [61,66]) 55 false [8,13,2,2],od 68 (.pick 55 (cb true) 67) [2,14],od 8 (.mov 68) [15,14,0,1,2,3,4,5,6,7,8,9,10,11,12,13,14,15]] [] true) (.seq (rg [om 69 8,oq 70 (.un .not 69)]) (.cond 70 (.seq (rg [om 4 (ci 7)]) (.ret)) (.skip)))))))))) (rg [om 18 6,oq 19 (.bin .int .add 18 (ci 1)),om 6 19]))))) (.seq (rg [om 4 (ci 0)]) (.ret))))) 
def tf122:TFunc:=⟨2,71,[.tmp 4],false,tc122,[]⟩
def lN (a0:LD) (a1:LY) (x2:Int):Option (LR Int Int) :=
 br (decide (x2 < (a1.length:Int)))
 (bno (zo a1 x2) fun y3 =>
 bno (F123 a0 (Entry.at_ y3)) fun y4 =>
 br (decide (¬ y4=(0:Int)))
 (qP (some y4))
 (bno (zo a1 x2) fun y5 =>
 bno (F130 a0 (Entry.at_ y5)) fun y6 =>
 br (!y6)
 (qP (some (6:Int)))
 (jn (σ:=Bool) (α:=(LR Int Int)) (bno (zo a1 x2) fun y7 =>
 br (decide ((Entry.n y7) < (-1000000:Int)))
 (zq (some true))
 (bno (zo a1 x2) fun y8 =>
 zq (some (decide ((1000000:Int) < (Entry.n y8)))))) fun x9 =>
 br x9
 (qP (some (1:Int)))
 (jn (σ:=Bool) (α:=(LR Int Int)) (br (decide (x2=(0:Int)))
 (zq (some true))
 (bno (zo a1 (wi (x2 - (1:Int)))) fun dj =>
 bno (zo a1 x2) fun cC =>
 bno (F151 (Entry.at_ dj) (Entry.at_ cC)) fun ic =>
 zq (some ic))) fun aL =>
 br (!aL)
 (qP (some (7:Int)))
 (nxO (some (wi (x2+(1:Int)))))))))
 (dnO (some x2))
def S122 (a0:LD) (a1:LY):Option Int :=
 bno (F125 a0) fun y1 =>
 br (decide (¬ y1=(0:Int)))
 (some y1)
 (lp (lN F123 F130 F151 a0 a1) (0:Int) fun bD =>
 some (0:Int))
def P122:=S122 P123 P125 P130 P151
def k122:CSpec:=⟨122,[(.st .outl),(.sl .entry)],.int,fun x=>P122 x.1 x.2,false,[]⟩
def r122 {S:Seat} (h:Ok1 S 122 tf122):RtF S [k123,k125,k130,k151] (Rt S k122):=okr h rfl fun x=>by kernel_rfl
def tc129:TCode:=.seq (rg [oq 3 (.box 0),om 6 (ci 0),om 7 (cb false)]) (.seq (rg [om 8 (ci 1)]) (.seq (.seq (rg [om 9 (ci 0)]) (.loop ⟨[.slot 8 .int,.slot 9 .int],[10,11,12,13,14,15,16,17,18,19,20,21,22,23,24,25,26,27,28,29,30,31,32,33,34,35,36,37,38,39],[],[]⟩ 0 (.seq (.seq (rg [om 12 9,om 13 1,oq 14 (.len false 13),oq 15 (.bin .int .lss 12 14)]) (.cond 15 (.skip) (.exit 0))) (.seq (.block 1 (.seq (.region [oq 19 (.fa 0 3),od 20 (.load none 19) [0],om 21 9,od 22 (.ia 3 20 21) [1,2],od 23 (.load (some 3) 22) [3],om 24 1,om 25 9,od 26 (.ia 1 24 25) [5,6],od 27 (.load none 26) [7],om 28 2,om 29 9,od 30 (.ia 1 28 29) [9,10],od 31 (.load none 30) [11],od 32 (.call false [] 103 [23,27,31]) [4,8,12],od 18 (.mov 32) [13],od 33 (.ext 18 0) [14],od 34 (.ext 18 1) [14],od 10 (.mov 33) [15,13,0,1,2,3,4,5,6,7,8,9,10,11,12,13,14,15],od 11 (.mov 34) [16,17,0,1,2,3,4,5,6,7,8,9,10,11,12,13,14,15,16,17]] [] true) (.seq (.seq (rg [om 35 11,oq 36 (.un .not 35)]) (.cond 36 (.seq (rg [om 6 (ci 0),om 7 (cb false)]) (.ret)) (.skip))) (rg [om 37 8,om 38 10,oq 39 (.bin .int .mul 37 38),om 8 39])))) (rg [om 16 9,oq 17 (.bin .int .add 16 (ci 1)),om 9 17]))))) (.seq (rg [om 40 8,om 6 40,om 7 (cb true)]) (.ret)))) 
def tf129:TFunc:=⟨3,41,[.tmp 6,.tmp 7],false,tc129,[]⟩
def zjl (a0:LD) (a1:LI) (a2:LI) (x1:(Int×Int)):Option (LR (Int×Int) (Int×Bool)) :=
 br (decide (x1.2 < (a1.length:Int)))
 (bno (zo a0 x1.2) fun y2 =>
 bno (zo a1 x1.2) fun y3 =>
 bno (zo a2 x1.2) fun y4 =>
 bno (F103 y2 y3 y4) fun y5 =>
 br (!y5.2)
 (qP (some ((0:Int),false)))
 (nxO (some (wi (x1.1 * y5.1),wi (x1.2+(1:Int))))))
 (dnO (some (x1.1,x1.2)))
def S129 (a0:LD) (a1:LI) (a2:LI):Option (Int×Bool) :=
 lp (zjl F103 a0 a1 a2) ((1:Int),(0:Int)) fun x6 =>
 some (x6.1,true)
def P129:=S129 P103
def k129:CSpec:=⟨129,[(.st .outl),(.sl .int),(.sl .int)],(.tp [.int,.bool]),fun x=>P129 x.1 x.2.1 x.2.2,false,[]⟩
def r129 {S:Seat} (h:Ok1 S 129 tf129):RtF S [k103] (Rt S k129):=okr h rfl fun x=>by kernel_rfl
def tc142:TCode:=.seq (rg [oq 2 (.box 0),om 4 cn]) (.seq (rg [oq 8 (.fa 0 2),oq 9 (.load none 8),oq 10 (.len false 9),oq 11 (.mksl 1 [.int .i64 0] 10 10),om 5 11]) (.seq (.seq (rg [oq 12 (.fa 0 2),oq 13 (.load none 12),oq 14 (.len false 13),oq 15 (.bin .int .sub 14 (ci 1)),om 6 15]) (.loop ⟨[.slot 1 .int,.slot 6 .int,.rowH 11 .int],[7,16,17,18,19,20,21,22,23,24,25,26,27,28,29,30,31,32,33,34,35],[],[]⟩ 0 (.seq (.seq (rg [om 16 6,oq 17 (.bin .int .geq 16 (ci 0))]) (.cond 17 (.skip) (.exit 0))) (.seq (.block 1 (.seq (rg [oq 20 (.fa 0 2),oq 21 (.load none 20),om 22 6,oq 23 (.ia 3 21 22),oq 24 (.fa 2 23),oq 25 (.load none 24),oq 26 (.len false 25),om 7 26]) (.seq (rg [om 27 5,om 28 6,om 29 1,om 30 7,oq 31 (.bin .int .rem 29 30),oq 32 (.ia 1 27 28),on (.store 1 32 31)]) (rg [om 33 1,om 34 7,oq 35 (.bin .int .quo 33 34),om 1 35])))) (rg [om 18 6,oq 19 (.bin .int .sub 18 (ci 1)),om 6 19]))))) (.seq (rg [om 36 5,om 4 36]) (.ret)))) 
def tf142:TFunc:=⟨2,37,[.tmp 4],false,tc142,[]⟩
def S142_L1 (a0:LD) (x1:(Int×Int×LI)):Option (LR (Int×Int×LI) LI) :=
 br (decide ((0:Int)<=x1.2.1))
 (bno (zo a0 x1.2.1) fun y2 =>
 ck (decide (¬ ((Dim.members y2).length:Int)=0)) <|
 ck (decide (0<=x1.2.1∧x1.2.1 < (x1.2.2.length:Int))) <|
 bno ((x1.2.2)[(Int.toNat x1.2.1)]?) fun y3 =>
 ck (decide (¬ ((Dim.members y2).length:Int)=0)) <|
 nxO (some (wi (Int.tdiv x1.1 ((Dim.members y2).length:Int)),wi (x1.2.1 - (1:Int)),List.set x1.2.2 (Int.toNat x1.2.1) (Int.tmod x1.1 ((Dim.members y2).length:Int)))))
 (dnO (some (x1.1,x1.2.1,x1.2.2)))
def S142 (a0:LD) (a1:Int):Option LI :=
 ck (decide (0<=(a0.length:Int)∧(a0.length:Int)<=(a0.length:Int)∧(a0.length:Int)<=zH)) <|
 lp (S142_L1 a0) (a1,wi ((a0.length:Int) - (1:Int)),List.replicate (Int.toNat (a0.length:Int)) (0:Int)) fun x4 =>
 some x4.2.2
def P142:=S142
def k142:CSpec:=⟨142,[(.st .outl),.int],(.sl .int),fun x=>P142 x.1 x.2,false,[]⟩
def r142 {S:Seat} (h:Ok1 S 142 tf142):RtF S [] (Rt S k142):=okr h rfl fun x=>by kernel_rfl
def tc126:TCode:=.seq (rg [oq 2 (.box 0),om 4 cn]) (.seq (rg [om 5 cn]) (.seq (rg [oq 12 (.load (some 1) 2),oq 13 (.call false [] 106 [12]),om 6 13]) (.seq (.seq (rg [om 7 (ci 0)]) (.loop ⟨[.row 5 38 (.sl .int),.slot 7 .int],[8,9,10,11,14,15,16,17,18,19,20,21,22,23,24,25,26,27,28,29,30,31,32,33,34,35,36,37,38],[37],[]⟩ 0 (.seq (.seq (rg [om 14 7,om 15 6,oq 16 (.bin .int .lss 14 15)]) (.cond 16 (.skip) (.exit 0))) (.seq (.blockJ ⟨[.row 5 38 (.sl .int)],[8,9,10,11,19,20,21,22,23,24,25,26,27,28,29,30,31,32,33,34,35,36,37,38],[37],[]⟩ 1 (.seq (rg [oq 19 (.load (some 1) 2),om 20 7,oq 21 (.call true [] 142 [19,20]),om 8 21]) (.seq (rg [oq 22 (.load (some 1) 2),om 23 8,oq 24 (.call false [] 130 [22,23]),om 9 24]) (.seq (.seq (rg [om 25 9,oq 26 (.un .not 25)]) (.cond 26 (.exit 1) (.skip))) (.seq (rg [oq 28 (.load (some 1) 2),om 29 1,om 30 8,oq 31 (.call false [] 129 [28,29,30]),om 27 31,oq 32 (.ext 27 0),oq 33 (.ext 27 1),om 10 32,om 11 33]) (.seq (rg [om 34 11]) (.condJ ⟨[.row 5 38 (.sl .int)],[35,36,37,38],[37],[]⟩ 34 (.region [om 35 5,om 36 8,oq 37 (.bslice true 1 [.slice none 0 0] 1 [(0,36)]),oq 38 (.app 1 35 37),om 5 38] [.int,.int,(.sl .int),(.sl .int)] false) (.skip)))))))) (rg [om 17 7,oq 18 (.bin .int .add 17 (ci 1)),om 7 18]))))) (.seq (rg [om 39 5,om 4 39]) (.ret))))) 
def tf126:TFunc:=⟨2,40,[.tmp 4],false,tc126,[]⟩
def zeT (a0:LD) (a1:LI) (y1:Int) (x2:((List LI)×Int)):Option (LR ((List LI)×Int) (List LI)) :=
 br (decide (x2.2 < y1))
 (jn (σ:=(List (List Int))) (α:=(LR ((List (List Int))×Int) (List (List Int)))) (bno (F142 a0 x2.2) fun y3 =>
 bno (F130 a0 y3) fun y4 =>
 br (!y4)
 (zq (some x2.1))
 (bno (F129 a0 a1 y3) fun y5 =>
 jn (σ:=(List (List Int))) (α:=(Sum (List (List Int)) (LR ((List (List Int))×Int) (List (List Int))))) (br y5.2
 (ck (decide (List.length x2.1+List.length ([y3]:List (List Int))<=zH)) <|
 zq (some (x2.1++([y3]:List (List Int)))))
 (zq (some x2.1))) fun x6 =>
 zq (some x6))) fun x7 =>
 nxO (some (x7,wi (x2.2+(1:Int)))))
 (dnO (some (x2.1,x2.2)))
def S126 (a0:LD) (a1:LI):Option (List LI) :=
 bno (F106 a0) fun y1 =>
 lp (zeT F129 F130 F142 a0 a1 y1) (([]:List (List Int)),(0:Int)) fun x8 =>
 some x8.1
def P126:=S126 P106 P129 P130 P142
def k126:CSpec:=⟨126,[(.st .outl),(.sl .int)],(.sl (.sl .int)),fun x=>P126 x.1 x.2,false,[]⟩
def r126 {S:Seat} (h:Ok1 S 126 tf126):RtF S [k106,k129,k130,k142] (Rt S k126):=okr h rfl fun x=>by kernel_rfl
end
end
section
set_option maxRecDepth 100000
section
variable (F122:LD->LY->(Option Int)) (F123:LD->LI->(Option Int)) (F130:LD->LI->(Option Bool)) (F135:LD->LY->Edit->(Option (LY×Int))) (F151:LI->LI->(Option Bool)) (F155:LY->LI->(Option (Int×Bool))) (F28:LI->LI->(Option Bool))
def tc155:TCode:=.seq (rg [om 4 (ci 0),om 5 (cb false)]) (.seq (rg [om 6 (ci 0)]) (.seq (.loop ⟨[.slot 6 .int],[8,9,10,11,12,13,14,15,16,17,18,19,20,21,22],[],[]⟩ 0 (.seq (.seq (.regionJ ⟨[.slot 20 .bool],[8,9,10,11,12,13,14,15,16,17,18,19],[],[]⟩ [om 8 6,om 9 0,oq 10 (.len false 9),oq 11 (.bin .int .lss 8 10),om 12 11,og 13 (.mov 0) 12 true [],og 14 (.mov 6) 12 true [],og 15 (.ia 2 13 14) 12 true [],og 16 (.fa 0 15) 12 true [],og 17 (.load none 16) 12 true [],og 18 (.mov 1) 12 true [],og 19 (.call false [] 151 [17,18]) 12 true [],oq 20 (.pick 12 19 (cb false))] [] false) (.cond 20 (.skip) (.exit 0))) (.block 1 (rg [om 21 6,oq 22 (.bin .int .add 21 (ci 1)),om 6 22])))) (.seq (.seq (rg [om 23 6,om 24 0,oq 25 (.len false 24),oq 26 (.bin .int .eql 23 25)]) (.cond 26 (.seq (rg [om 27 6,om 4 27,om 5 (cb false)]) (.ret)) (.skip))) (.seq (rg [om 28 1,om 29 0,om 30 6,oq 31 (.ia 2 29 30),oq 32 (.fa 0 31),oq 33 (.load none 32),oq 34 (.call false [] 151 [28,33]),om 7 34]) (.seq (rg [om 35 6,om 36 7,oq 37 (.un .not 36),om 4 35,om 5 37]) (.ret)))))) 
def tf155:TFunc:=⟨2,38,[.tmp 4,.tmp 5],false,tc155,[]⟩
def w9 (a0:LY) (a1:LI) (x1:Int):Option (LR Int (Int×Bool)) :=
 jn (σ:=Bool) (α:=(LR Int (Int×Bool))) (br (decide (x1 < (a0.length:Int)))
 (bno (zo a0 x1) fun y2 =>
 bno (F151 (Entry.at_ y2) a1) fun y3 =>
 zq (some y3))
 (zq (some false))) fun x4 =>
 br x4
 (nxO (some (wi (x1+(1:Int)))))
 (dnO (some x1))
def S155 (a0:LY) (a1:LI):Option (Int×Bool) :=
 lp (w9 F151 a0 a1) (0:Int) fun x5 =>
 br (decide (x5=(a0.length:Int)))
 (some (x5,false))
 (bno (zo a0 x5) fun y6 =>
 bno (F151 a1 (Entry.at_ y6)) fun y7 =>
 some (x5, !y7))
def P155:=S155 P151
def k155:CSpec:=⟨155,[(.sl .entry),(.sl .int)],(.tp [.int,.bool]),fun x=>P155 x.1 x.2,false,[]⟩
def r155 {S:Seat} (h:Ok1 S 155 tf155):RtF S [k151] (Rt S k155):=okr h rfl fun x=>by kernel_rfl
def tc134:TCode:=.seq (rg [oq 4 (.alloc [.int .i64 0,.int .i64 0])]) (.seq (rg [om 8 0,om 9 1,oq 10 (.call false [] 155 [8,9]),om 7 10,oq 11 (.ext 7 0),oq 12 (.ext 7 1),om 5 11,om 6 12]) (.seq (.seq (rg [om 13 6,oq 14 (.un .not 13)]) (.cond 14 (.seq (rg [oq 15 (.build [.int .i64 0,.int .i64 0] []),on (.store 2 4 15)]) (.ret)) (.skip))) (.seq (rg [om 16 0,om 17 5,oq 18 (.ia 2 16 17),oq 19 (.fa 1 18),oq 20 (.load none 19),oq 21 (.build [.int .i64 0,.int .i64 0] [(0,1,(ci 1)),(1,1,20)]),on (.store 2 4 21)]) (.ret)))) 
def tf134:TFunc:=⟨2,22,[.cell 4 (some 2)],false,tc134,[]⟩
def S134 (a0:LY) (a1:LI):Option Cell :=
 bno (F155 a0 a1) fun y1 =>
 br (!y1.2)
 (some (Cell.mk (0:Int) (0:Int)))
 (bno (zo a0 y1.1) fun y2 =>
 some (Cell.mk (1:Int) (Entry.n y2)))
def P134:=S134 P155
def k134:CSpec:=⟨134,[(.sl .entry),(.sl .int)],(.st .cell),fun x=>P134 x.1 x.2,false,[]⟩
def r134 {S:Seat} (h:Ok1 S 134 tf134):RtF S [k155] (Rt S k134):=okr h rfl fun x=>by kernel_rfl
end
end
end Ab
