import Derived.Test.YtchidgkpkhloeaaGreatDoorE2
set_option linter.all false
noncomputable section
namespace Ab
open Go
section
set_option maxRecDepth 100000
section
variable (F100:Dim->Int->(Option LI)) (F122:LD->LY->(Option Int)) (F247:ByteArray->(Option (LN×Int×Int))) (F319:LD->(Option (Int×Int×Int))) (F321:Dim->(Option ((List LI)×Int×Int))) (F324:LD->(Option Int)) (F347:LI->Int->(Option LI)) (F348:LI->Int->(Option Bool)) (F94:LD->(Option (Int×Int×Int))) (F95:Dim->(Option (Int×Int))) (F96:Dim->ByteArray->(Option Int))
def lX:TCode:=.seq (rg [om 4 cn]) (.seq (rg [om 5 (ci 0)]) (.seq (.loop ⟨[.slot 5 .int],[7,8,9,10,11,12,13,14,15,16,17,18,19,20],[],[]⟩ 0 (.seq (.seq (.regionJ ⟨[.slot 18 .bool],[7,8,9,10,11,12,13,14,15,16,17],[],[]⟩ [om 7 5,om 8 0,oq 9 (.len false 8),oq 10 (.bin .int .lss 7 9),om 11 10,og 12 (.mov 0) 11 true [],og 13 (.mov 5) 11 true [],og 14 (.ia 1 12 13) 11 true [],og 15 (.load none 14) 11 true [],og 16 (.mov 1) 11 true [],og 17 (.bin .int .lss 15 16) 11 true [],oq 18 (.pick 11 17 (cb false))] [] false) (.cond 18 (.skip) (.exit 0))) (.block 1 (rg [om 19 5,oq 20 (.bin .int .add 19 (ci 1)),om 5 20])))) (.seq (.seq (.regionJ ⟨[.slot 32 .bool],[21,22,23,24,25,26,27,28,29,30,31],[],[]⟩ [om 21 5,om 22 0,oq 23 (.len false 22),oq 24 (.bin .int .lss 21 23),om 25 24,og 26 (.mov 0) 25 true [],og 27 (.mov 5) 25 true [],og 28 (.ia 1 26 27) 25 true [],og 29 (.load none 28) 25 true [],og 30 (.mov 1) 25 true [],og 31 (.bin .int .eql 29 30) 25 true [],oq 32 (.pick 25 31 (cb false))] [] false) (.cond 32 (.seq (rg [om 33 0,om 4 33]) (.ret)) (.skip))) (.seq (rg [om 6 cn]) (.seq (rg [om 34 6,om 35 0,om 36 5,oq 37 (.slc 1 35 none (some 36)),oq 38 (.app 1 34 37),om 6 38]) (.seq (rg [om 39 6,om 40 1,oq 41 (.bslice false 1 [.int .i64 0] 1 [(0,40)]),oq 42 (.app 1 39 41),om 6 42]) (.seq (rg [om 43 6,om 44 0,om 45 5,oq 46 (.slc 1 44 (some 45) none),oq 47 (.app 1 43 46),om 4 47]) (.ret)))))))) 
def kT:TFunc:=⟨2,48,[.tmp 4],false,lX,[]⟩
def zeg (a0:LI) (a1:Int) (x1:Int):Option (LR Int LI) :=
 jn (σ:=Bool) (α:=(LR Int (List Int))) (br (decide (x1 < (a0.length:Int)))
 (bno (zl a0 x1) fun y2 =>
 zt (some (decide (y2 < a1))))
 (zt (some false))) fun x3 =>
 br x3
 (nxO (some (wi (x1+(1:Int)))))
 (dnO (some x1))
def S347 (a0:LI) (a1:Int):Option LI :=
 lp (zeg a0 a1) (0:Int) fun x4 =>
 jn (σ:=Bool) (α:=(List Int)) (br (decide (x4 < (a0.length:Int)))
 (bno (zl a0 x4) fun y5 =>
 zt (some (decide (y5=a1))))
 (zt (some false))) fun x6 =>
 br x6
 (some a0)
 (ck (decide (0<=(0:Int)∧(0:Int)<=x4∧x4<=(a0.length:Int))) <|
 ck (decide (List.length (List.take (Int.toNat x4 - Int.toNat (0:Int)) (List.drop (Int.toNat (0:Int)) a0))<=zu)) <|
 ck (decide (List.length (List.take (Int.toNat x4 - Int.toNat (0:Int)) (List.drop (Int.toNat (0:Int)) a0))+List.length ([a1]:List Int)<=zu)) <|
 ck (decide (0<=x4∧x4<=(a0.length:Int)∧(a0.length:Int)<=(a0.length:Int))) <|
 ck (decide (List.length ((List.take (Int.toNat x4 - Int.toNat (0:Int)) (List.drop (Int.toNat (0:Int)) a0))++([a1]:List Int))+List.length (List.take (Int.toNat (a0.length:Int) - Int.toNat x4) (List.drop (Int.toNat x4) a0))<=zu)) <|
 some (((List.take (Int.toNat x4 - Int.toNat (0:Int)) (List.drop (Int.toNat (0:Int)) a0))++([a1]:List Int))++(List.take (Int.toNat (a0.length:Int) - Int.toNat x4) (List.drop (Int.toNat x4) a0))))
def zff:=S347
def fQ:CSpec:=⟨347,[(.sl .int),.int],(.sl .int),fun x=>zff x.1 x.2,false,[]⟩
def po {S:Seat} (h:Ok1 S 347 kT):RtF S [] (Rt S fQ):=okr h rfl fun x=>by kernel_rfl
def lW:TCode:=.seq (rg [om 4 (cb false)]) (.seq (.seq (rg [om 5 (ci 0)]) (.loop ⟨[.slot 5 .int],[6,7,8,9,10,11,12,13,14,15,16,17],[],[]⟩ 0 (.seq (.seq (rg [om 6 5,om 7 0,oq 8 (.len false 7),oq 9 (.bin .int .lss 6 8)]) (.cond 9 (.skip) (.exit 0))) (.seq (.block 1 (.seq (rg [om 12 0,om 13 5,oq 14 (.ia 1 12 13),oq 15 (.load none 14),om 16 1,oq 17 (.bin .int .eql 15 16)]) (.cond 17 (.seq (rg [om 4 (cb true)]) (.ret)) (.skip)))) (rg [om 10 5,oq 11 (.bin .int .add 10 (ci 1)),om 5 11]))))) (.seq (rg [om 4 (cb false)]) (.ret))) 
def kR:TFunc:=⟨2,18,[.tmp 4],false,lW,[]⟩
def zge (a0:LI) (a1:Int) (x1:Int):Option (LR Int Bool) :=
 br (decide (x1 < (a0.length:Int)))
 (bno (zl a0 x1) fun y2 =>
 br (decide (y2=a1))
 (qX (some true))
 (nxO (some (wi (x1+(1:Int))))))
 (dnO (some x1))
def S348 (a0:LI) (a1:Int):Option Bool :=
 lp (zge a0 a1) (0:Int) fun x3 =>
 some false
def zkj:=S348
def gZ:CSpec:=⟨348,[(.sl .int),.int],.bool,fun x=>zkj x.1 x.2,false,[]⟩
def pj {S:Seat} (h:Ok1 S 348 kR):RtF S [] (Rt S gZ):=okr h rfl fun x=>by kernel_rfl
def mi:TCode:=.seq (rg [oq 1 (.box 0),om 2 cn,om 3 (ci 0),om 4 (ci 0)]) (.seq (rg [oq 25 (.load (some 3) 1),oq 26 (.call false [] 95 [25]),om 24 26,oq 27 (.ext 24 0),oq 28 (.ext 24 1),om 5 27,om 6 28]) (.seq (.seq (rg [om 29 6,oq 30 (.bin .int .neq 29 (ci 0))]) (.cond 30 (.seq (rg [om 31 5,om 32 6,om 2 cn,om 3 31,om 4 32]) (.ret)) (.skip))) (.seq (rg [om 7 cn]) (.seq (.seq (rg [om 8 (ci 0)]) (.loop ⟨[.row 7 115 (.sl .int),.slot 8 .int],[9,10,11,12,13,14,15,16,33,34,35,36,37,38,39,40,41,42,43,44,45,46,47,48,49,50,51,52,53,54,55,56,57,58,59,62,63,64,65,66,67,68,69,70,71,72,73,74,75,76,77,78,79,80,81,82,84,85,86,87,88,89,90,91,92,93,94,95,96,97,98,99,100,101,102,103,104,105,106,107,108,109,110,111,112,113,114,115],[114],[]⟩ 0 (.seq (.seq (rg [om 33 8,oq 34 (.fa 2 1),oq 35 (.load none 34),oq 36 (.len false 35),oq 37 (.bin .int .lss 33 36)]) (.cond 37 (.skip) (.exit 0))) (.seq (.block 1 (.seq (rg [om 9 cn]) (.seq (.seq (rg [oq 40 (.fa 2 1),oq 41 (.load none 40),om 42 8,oq 43 (.ia 4 41 42),oq 44 (.fa 3 43),oq 45 (.load none 44),oq 46 (.bin .str .neq 45 (cs ⟨#[]⟩))]) (.condJ ⟨[.slot 9 (.sl .int)],[10,11,12,13,14,15,16,47,48,49,50,51,52,53,54,55,56,57,58,59,62,63,64,65,66,67,68,69,70,71,72,73,74,75,76,77,78,79,80,81,82,84,85,86,87,88,89,90,91,92,93,94,95,96,97,98,99,100,101,102,103,104,105,106,107,108,109,110,111],[],[]⟩ 46 (.seq (rg [oq 48 (.fa 2 1),oq 49 (.load none 48),om 50 8,oq 51 (.ia 4 49 50),oq 52 (.fa 3 51),oq 53 (.load none 52),oq 54 (.call true [] 247 [53]),om 47 54,oq 55 (.ext 47 0),oq 56 (.ext 47 1),oq 57 (.ext 47 2),om 10 55,om 11 56,om 12 57]) (.seq (.seq (rg [om 58 12,oq 59 (.bin .int .neq 58 (ci 0))]) (.cond 59 (.seq (rg [om 60 8,om 61 12,om 2 cn,om 3 60,om 4 61]) (.ret)) (.skip))) (.seq (rg [om 13 (ci 0)]) (.loop ⟨[.slot 9 (.sl .int),.slot 13 .int],[14,62,63,64,65,66,67,68,69,70,71,72,73,74,75,76,77,78,79,80,81,82,84,85,86],[],[]⟩ 2 (.seq (.seq (rg [om 62 13,om 63 10,oq 64 (.len false 63),oq 65 (.bin .int .lss 62 64)]) (.cond 65 (.skip) (.exit 2))) (.seq (.blockJ ⟨[.slot 9 (.sl .int)],[14,68,69,70,71,72,73,74,75,76,77,78,79,80,81,82,84,85,86],[],[]⟩ 3 (.seq (.seq (rg [om 68 10,om 69 13,oq 70 (.ia 5 68 69),oq 71 (.fa 0 70),oq 72 (.load none 71),oq 73 (.bin .int .neq 72 (ci 2))]) (.cond 73 (.exit 3) (.skip))) (.seq (.region [oq 74 (.load (some 3) 1),om 75 10,om 76 13,od 77 (.ia 5 75 76) [1,2],od 78 (.fa 2 77) [3],od 79 (.load none 78) [4],od 80 (.call false [] 96 [74,79]) [0,5],od 14 (.mov 80) [6,6,0,1,2,3,4,5,6]] [] true) (.seq (.seq (rg [om 81 14,oq 82 (.bin .int .lss 81 (ci 0))]) (.cond 82 (.seq (rg [om 83 8,om 2 cn,om 3 83,om 4 (ci 5)]) (.ret)) (.skip))) (rg [om 84 9,om 85 14,oq 86 (.call true [] 347 [84,85]),om 9 86]))))) (rg [om 66 13,oq 67 (.bin .int .add 66 (ci 1)),om 13 67]))))))) (.seq (rg [oq 87 (.load (some 3) 1),om 88 8,oq 89 (.call true [] 100 [87,88]),om 15 89]) (.seq (rg [om 16 (ci 0)]) (.loop ⟨[.slot 9 (.sl .int),.slot 16 .int],[90,91,92,93,94,95,96,97,98,99,100,101,102,103,104,105,106,107,108,109,110,111],[],[]⟩ 4 (.seq (.seq (rg [om 90 16,om 91 15,oq 92 (.len false 91),oq 93 (.bin .int .lss 90 92)]) (.cond 93 (.skip) (.exit 4))) (.seq (.block 5 (.seq (.region [oq 96 (.fa 2 1),od 97 (.load none 96) [0],om 98 15,om 99 16,od 100 (.ia 1 98 99) [2,3],od 101 (.load none 100) [4],od 102 (.ia 4 97 101) [1,5],od 103 (.fa 2 102) [6],od 104 (.load none 103) [7],od 105 (.bin .int .neq 104 (ci 0)) [8]] [] true) (.condJ ⟨[.slot 9 (.sl .int)],[106,107,108,109,110,111],[],[]⟩ 105 (rg [om 106 9,om 107 15,om 108 16,oq 109 (.ia 1 107 108),oq 110 (.load none 109),oq 111 (.call true [] 347 [106,110]),om 9 111]) (.skip)))) (rg [om 94 16,oq 95 (.bin .int .add 94 (ci 1)),om 16 95])))))))) (.region [om 112 7,om 113 9,oq 114 (.bslice true 1 [.slice none 0 0] 1 [(0,113)]),oq 115 (.app 1 112 114),om 7 115] [.int,.int,(.sl .int),(.sl .int)] false)))) (rg [om 38 8,oq 39 (.bin .int .add 38 (ci 1)),om 8 39]))))) (.seq (.seq (rg [om 17 (ci 0)]) (.loop ⟨[.slot 17 .int],[18,19,20,21,22,23,116,117,118,119,120,121,122,123,124,125,126,127,128,129,130,131,132,133,134,135,136,137,138,139,140,141,142,143,144,145,146,147,148,149,150,151,152,153,154,155,156,157,158,159,160,161,162,163,164,165,166,167,168,169,170,171,172,173,174],[],[]⟩ 6 (.seq (.seq (rg [om 116 17,om 117 7,oq 118 (.len false 117),oq 119 (.bin .int .lss 116 118)]) (.cond 119 (.skip) (.exit 6))) (.seq (.block 7 (.seq (rg [om 122 7,om 123 17,oq 124 (.ia 1 122 123),oq 125 (.load none 124),om 18 125]) (.seq (.seq (rg [om 19 (cb true)]) (.loop ⟨[.slot 18 (.sl .int),.slot 19 .bool],[20,21,22,126,127,128,129,130,131,132,133,134,135,136,137,138,139,140,141,142,143,144,145,146,147,148,149,150,151,152,153,154,155,156,157,158,159,160,161,162,163,164,165,166,167,168,169,170],[],[]⟩ 8 (.seq (.seq (rg [om 126 19]) (.cond 126 (.skip) (.exit 8))) (.block 9 (.seq (rg [om 19 (cb false)]) (.seq (rg [om 20 (ci 0)]) (.loop ⟨[.slot 18 (.sl .int),.slot 19 .bool,.slot 20 .int],[21,22,127,128,129,130,131,132,133,134,135,136,137,138,139,140,141,142,143,144,145,146,147,148,149,150,151,152,153,154,155,156,157,158,159,160,161,162,163,164,165,166,167,168,169,170],[],[]⟩ 10 (.seq (.seq (rg [om 127 20,om 128 18,oq 129 (.len false 128),oq 130 (.bin .int .lss 127 129)]) (.cond 130 (.skip) (.exit 10))) (.seq (.block 11 (.seq (rg [om 21 (ci 0)]) (.loop ⟨[.slot 18 (.sl .int),.slot 19 .bool,.slot 21 .int],[22,133,134,135,136,137,138,139,140,141,142,143,144,145,146,147,148,149,150,151,152,153,154,155,156,157,158,159,160,161,162,163,164,165,166,167,168,169,170],[],[]⟩ 12 (.seq (.seq (rg [om 133 21,om 134 7,om 135 18,om 136 20,oq 137 (.ia 1 135 136),oq 138 (.load none 137),oq 139 (.ia 1 134 138),oq 140 (.load none 139),oq 141 (.len false 140),oq 142 (.bin .int .lss 133 141)]) (.cond 142 (.skip) (.exit 12))) (.seq (.block 13 (.seq (rg [om 145 18,om 146 7,om 147 18,om 148 20,oq 149 (.ia 1 147 148),oq 150 (.load none 149),oq 151 (.ia 1 146 150),oq 152 (.load none 151),om 153 21,oq 154 (.ia 1 152 153),oq 155 (.load none 154),oq 156 (.call false [] 348 [145,155]),om 22 156]) (.seq (rg [om 157 22,oq 158 (.un .not 157)]) (.cond 158 (.seq (rg [om 159 18,om 160 7,om 161 18,om 162 20,oq 163 (.ia 1 161 162),oq 164 (.load none 163),oq 165 (.ia 1 160 164),oq 166 (.load none 165),om 167 21,oq 168 (.ia 1 166 167),oq 169 (.load none 168),oq 170 (.call true [] 347 [159,169]),om 18 170]) (.seq (rg [om 19 (cb true)]) (.exit 12))) (.skip))))) (rg [om 143 21,oq 144 (.bin .int .add 143 (ci 1)),om 21 144])))))) (rg [om 131 20,oq 132 (.bin .int .add 131 (ci 1)),om 20 132])))))))))) (.seq (rg [om 171 18,om 172 17,oq 173 (.call false [] 348 [171,172]),om 23 173]) (.seq (rg [om 174 23]) (.cond 174 (.seq (rg [om 175 17,om 2 cn,om 3 175,om 4 (ci 8)]) (.ret)) (.skip))))))) (rg [om 120 17,oq 121 (.bin .int .add 120 (ci 1)),om 17 121]))))) (.seq (rg [om 176 7,om 2 176,om 3 (ci (-1)),om 4 (ci 0)]) (.ret))))))) 
def lq:TFunc:=⟨1,177,[.tmp 2,.tmp 3,.tmp 4],false,mi,[]⟩
def zen (a0:Dim) (x2:((List LI)×Int)) (y5:(LN×Int×Int)) (x6:(LI×Int)):Option (LR (LI×Int) (Sum LI (LR ((List LI)×Int) ((List LI)×Int×Int)))) :=
 br (decide (x6.2 < (y5.1.length:Int)))
 (jn (σ:=(List Int)) (α:=(LR ((List Int)×Int) (Sum (List Int) (LR ((List (List Int))×Int) ((List (List Int))×Int×Int))))) (bno (zl y5.1 x6.2) fun y7 =>
 br (decide (¬ (Node.op y7)=(2:Int)))
 (zt (some x6.1))
 (bno (zl y5.1 x6.2) fun y8 =>
 bno (F96 a0 (Node.name y8)) fun y9 =>
 br (decide (y9 < (0:Int)))
 (ze0 (qX (ze0 (qX (some (([]:List (List Int)),x2.2,(5:Int)))))))
 (bno (F347 x6.1 y9) fun dw =>
 zt (some dw)))) fun dQ =>
 nxO (some (dQ,wi (x6.2+(1:Int)))))
 (dnO (some (x6.1,x6.2)))
def zem (a0:Dim) (cp:LI) (eC:(LI×Int)):Option (LR (LI×Int) (Sum LI (LR ((List LI)×Int) ((List LI)×Int×Int)))) :=
 br (decide (eC.2 < (cp.length:Int)))
 (bno (zl cp eC.2) fun dY =>
 bno (zl (Dim.members a0) dY) fun gV =>
 jn (σ:=(List Int)) (α:=(LR ((List Int)×Int) (Sum (List Int) (LR ((List (List Int))×Int) ((List (List Int))×Int×Int))))) (br (decide (¬ (Member.sign gV)=(0:Int)))
 (bno (zl cp eC.2) fun eL =>
 bno (F347 eC.1 eL) fun n9 =>
 zt (some n9))
 (zt (some eC.1))) fun x19 =>
 nxO (some (x19,wi (eC.2+(1:Int)))))
 (dnO (some (eC.1,eC.2)))
def zgt (a0:Dim) (x2:((List LI)×Int)):Option (LR ((List LI)×Int) ((List LI)×Int×Int)) :=
 br (decide (x2.2 < ((Dim.members a0).length:Int)))
 (bno (zl (Dim.members a0) x2.2) fun y3 =>
 jn (σ:=(List Int)) (α:=(LR ((List (List Int))×Int) ((List (List Int))×Int×Int))) (br (decide (¬ (Member.formula y3)=(⟨#[]⟩:ByteArray)))
 (bno (zl (Dim.members a0) x2.2) fun y4 =>
 bno (F247 (Member.formula y4)) fun y5 =>
 br (decide (¬ y5.2.2=(0:Int)))
 (ze0 (qX (some (([]:List (List Int)),x2.2,y5.2.2))))
 (lp (zen F347 F96 a0 x2 y5) (([]:List Int),(0:Int)) fun fO =>
 zt (some fO.1)))
 (bno (F100 a0 x2.2) fun cp =>
 lp (zem F347 a0 cp) (([]:List Int),(0:Int)) fun dZ =>
 zt (some dZ.1))) fun tv =>
 ck (decide (List.length x2.1+List.length ([tv]:List (List Int))<=zu)) <|
 nxO (some (x2.1++([tv]:List (List Int)),wi (x2.2+(1:Int)))))
 (dnO (some (x2.1,x2.2)))
def zel (cD:((List LI)×Int)) (dA:(LI×Bool×Int)) (db:(LI×Bool×Int)):Option (LR (LI×Bool×Int) (LR (LI×Bool×Int) (LR (LI×Bool) (LR Int ((List LI)×Int×Int))))) :=
 bno (zl db.1 dA.2.2) fun oM =>
 ck (decide (0<=oM∧oM < (cD.1.length:Int))) <|
 bno ((cD.1)[(Int.toNat oM)]?) fun oL =>
 br (decide (db.2.2 < (oL.length:Int)))
 (bno (zl db.1 dA.2.2) fun oK =>
 ck (decide (0<=oK∧oK < (cD.1.length:Int))) <|
 bno ((cD.1)[(Int.toNat oK)]?) fun y31 =>
 bno (zl y31 db.2.2) fun y32 =>
 bno (F348 db.1 y32) fun y33 =>
 br (!y33)
 (bno (zl db.1 dA.2.2) fun oJ =>
 ck (decide (0<=oJ∧oJ < (cD.1.length:Int))) <|
 bno ((cD.1)[(Int.toNat oJ)]?) fun y35 =>
 bno (zl y35 db.2.2) fun y36 =>
 bno (F347 db.1 y36) fun y37 =>
 dnO (some (y37,true,db.2.2)))
 (nxO (some (db.1,db.2.1,wi (db.2.2+(1:Int))))))
 (dnO (some (db.1,db.2.1,db.2.2)))
def zgs (cD:((List LI)×Int)) (dA:(LI×Bool×Int)):Option (LR (LI×Bool×Int) (LR (LI×Bool) (LR Int ((List LI)×Int×Int)))) :=
 br (decide (dA.2.2 < (dA.1.length:Int)))
 (lp (zel F347 F348 cD dA) (dA.1,dA.2.1,(0:Int)) fun tt =>
 nxO (some (tt.1,tt.2.1,wi (dA.2.2+(1:Int)))))
 (dnO (some (dA.1,dA.2.1,dA.2.2)))
def zcu (cD:((List LI)×Int)) (kt:(LI×Bool)):Option (LR (LI×Bool) (LR Int ((List LI)×Int×Int))) :=
 br kt.2
 (lp (zgs F347 F348 cD) (kt.1,false,(0:Int)) fun tr =>
 nxO (some (tr.1,tr.2.1)))
 (dnO (some (kt.1,kt.2)))
def zgr (cD:((List LI)×Int)) (fF:Int):Option (LR Int ((List LI)×Int×Int)) :=
 br (decide (fF < (cD.1.length:Int)))
 (ck (decide (0<=fF∧fF < (cD.1.length:Int))) <|
 bno ((cD.1)[(Int.toNat fF)]?) fun oN =>
 lp (zcu F347 F348 cD) (oN,true) fun x40 =>
 bno (F348 x40.1 fF) fun y41 =>
 br y41
 (qX (some (([]:List (List Int)),fF,(8:Int))))
 (nxO (some (wi (fF+(1:Int))))))
 (dnO (some fF))
def S321 (a0:Dim):Option ((List LI)×Int×Int) :=
 bno (F95 a0) fun y1 =>
 br (decide (¬ y1.2=(0:Int)))
 (some (([]:List (List Int)),y1.1,y1.2))
 (lp (zgt F100 F247 F347 F96 a0) (([]:List (List Int)),(0:Int)) fun cD =>
 lp (zgr F347 F348 cD) (0:Int) fun x42 =>
 some (cD.1,(-1:Int),(0:Int)))
def P321:=S321 P100 P247 zff zkj P95 P96
def fU:CSpec:=⟨321,[(.st .dim)],(.tp [(.sl (.sl .int)),.int,.int]),fun x=>P321 x,false,[]⟩
def pF {S:Seat} (h:Ok1 S 321 lq):RtF S [eU,fW,fQ,gZ,oh,mW] (Rt S fU):=okr h rfl fun x=>by kernel_rfl
def mh:TCode:=.seq (rg [om 2 cn]) (.seq (.region [om 8 0,oq 9 (.len false 8),oq 10 (.mksl 1 [.bool false] 9 9),om 3 10] [.int,.int,.bool] false) (.seq (rg [om 4 cn]) (.seq (.loop ⟨[.row 4 56 .int,.rowH 10 .bool],[5,6,7,11,12,13,14,15,16,17,18,19,20,21,22,23,24,25,26,27,28,29,30,31,32,33,34,35,36,37,38,39,40,41,42,43,44,45,46,47,48,49,50,51,52,53,54,55,56],[55],[]⟩ 0 (.seq (.seq (rg [om 11 4,oq 12 (.len false 11),om 13 0,oq 14 (.len false 13),oq 15 (.bin .int .lss 12 14)]) (.cond 15 (.skip) (.exit 0))) (.block 1 (.seq (rg [om 5 (ci 0)]) (.loop ⟨[.row 4 56 .int,.slot 5 .int,.rowH 10 .bool],[6,7,16,17,18,19,20,21,22,23,24,25,26,27,28,29,30,31,32,33,34,35,36,37,38,39,40,41,42,43,44,45,46,47,48,49,50,51,52,53,54,55,56],[55],[]⟩ 2 (.seq (.seq (rg [om 16 5,om 17 0,oq 18 (.len false 17),oq 19 (.bin .int .lss 16 18)]) (.cond 19 (.skip) (.exit 2))) (.seq (.block 3 (.seq (rg [om 22 3,om 23 5,oq 24 (.ia 1 22 23),oq 25 (.load none 24),oq 26 (.un .not 25),om 6 26]) (.seq (.seq (rg [om 7 (ci 0)]) (.loop ⟨[.slot 6 .bool,.slot 7 .int],[27,28,29,30,31,32,33,34,35,36,37,38,39,40,41,42,43,44,45,46,47,48],[],[]⟩ 4 (.seq (.seq (.regionJ ⟨[.slot 36 .bool],[27,28,29,30,31,32,33,34,35],[],[]⟩ [om 27 7,om 28 0,om 29 5,oq 30 (.ia 1 28 29),oq 31 (.load none 30),oq 32 (.len false 31),oq 33 (.bin .int .lss 27 32),om 34 33,og 35 (.mov 6) 34 true [],oq 36 (.pick 34 35 (cb false))] [] false) (.cond 36 (.skip) (.exit 4))) (.seq (.block 5 (rg [om 39 3,om 40 0,om 41 5,oq 42 (.ia 1 40 41),oq 43 (.load none 42),om 44 7,oq 45 (.ia 1 43 44),oq 46 (.load none 45),oq 47 (.ia 1 39 46),oq 48 (.load none 47),om 6 48])) (rg [om 37 7,oq 38 (.bin .int .add 37 (ci 1)),om 7 38]))))) (.seq (rg [om 49 6]) (.cond 49 (.seq (rg [om 50 3,om 51 5,oq 52 (.ia 1 50 51),on (.store 1 52 (cb true))]) (.seq (rg [om 53 4,om 54 5,oq 55 (.bslice false 1 [.int .i64 0] 1 [(0,54)]),oq 56 (.app 1 53 55),om 4 56]) (.exit 2))) (.skip)))))) (rg [om 20 5,oq 21 (.bin .int .add 20 (ci 1)),om 5 21])))))))) (.seq (rg [om 57 4,om 2 57]) (.ret))))) 
def ln:TFunc:=⟨1,58,[.tmp 2],false,mh,[]⟩
def zbd (a0:(List LI)) (x2:(LI×Int×(List Bool))) (x4:(Bool×Int)):Option (LR (Bool×Int) (LR (LI×Int×(List Bool)) (LR (LI×(List Bool)) LI))) :=
 jn (σ:=Bool) (α:=(LR (Bool×Int) (LR ((List Int)×Int×(List Bool)) (LR ((List Int)×(List Bool)) (List Int))))) (bno (zl a0 x2.2.1) fun y5 =>
 br (decide (x4.2 < (y5.length:Int)))
 (zt (some x4.1))
 (zt (some false))) fun x6 =>
 br x6
 (bno (zl a0 x2.2.1) fun y7 =>
 bno (zl y7 x4.2) fun y8 =>
 ck (decide (0<=y8∧y8 < (x2.2.2.length:Int))) <|
 bno ((x2.2.2)[(Int.toNat y8)]?) fun y9 =>
 nxO (some (y9,wi (x4.2+(1:Int)))))
 (dnO (some (x4.1,x4.2)))
def zek (a0:(List LI)) (x2:(LI×Int×(List Bool))):Option (LR (LI×Int×(List Bool)) (LR (LI×(List Bool)) LI)) :=
 br (decide (x2.2.1 < (a0.length:Int)))
 (ck (decide (0<=x2.2.1∧x2.2.1 < (x2.2.2.length:Int))) <|
 bno ((x2.2.2)[(Int.toNat x2.2.1)]?) fun y3 =>
 lp (zbd a0 x2) (!y3,(0:Int)) fun bg =>
 br bg.1
 (ck (decide (0<=x2.2.1∧x2.2.1 < (x2.2.2.length:Int))) <|
 bno ((x2.2.2)[(Int.toNat x2.2.1)]?) fun cS =>
 ck (decide (List.length x2.1+List.length ([x2.2.1]:List Int)<=zu)) <|
 dnO (some (x2.1++([x2.2.1]:List Int),x2.2.1,List.set x2.2.2 (Int.toNat x2.2.1) true)))
 (nxO (some (x2.1,wi (x2.2.1+(1:Int)),x2.2.2))))
 (dnO (some (x2.1,x2.2.1,x2.2.2)))
def zej (a0:(List LI)) (x1:(LI×(List Bool))):Option (LR (LI×(List Bool)) LI) :=
 br (decide ((x1.1.length:Int) < (a0.length:Int)))
 (lp (zek a0) (x1.1,(0:Int),x1.2) fun fO =>
 nxO (some (fO.1,fO.2.2)))
 (dnO (some (x1.1,x1.2)))
def S322 (a0:(List LI)):Option LI :=
 ck (decide (0<=(a0.length:Int)∧(a0.length:Int)<=(a0.length:Int)∧(a0.length:Int)<=zu)) <|
 lp (zej a0) (([]:List Int),List.replicate (Int.toNat (a0.length:Int)) false) fun gW =>
 some gW.1
def P322:=S322
def iq:CSpec:=⟨322,[(.sl (.sl .int))],(.sl .int),fun x=>P322 x,false,[]⟩
def pE {S:Seat} (h:Ok1 S 322 ln):RtF S [] (Rt S iq):=okr h rfl fun x=>by kernel_rfl
def mj:TCode:=.seq (rg [oq 1 (.box 0),om 2 (ci 0),om 3 (ci 0),om 4 (ci 0)]) (.seq (rg [oq 13 (.load (some 1) 1),oq 14 (.call false [] 94 [13]),om 12 14,oq 15 (.ext 12 0),oq 16 (.ext 12 1),oq 17 (.ext 12 2),om 5 15,om 6 16,om 7 17]) (.seq (.seq (rg [om 18 7,oq 19 (.bin .int .neq 18 (ci 0))]) (.cond 19 (.seq (rg [om 20 5,om 21 6,om 22 7,om 2 20,om 3 21,om 4 22]) (.ret)) (.skip))) (.seq (.seq (rg [om 8 (ci 0)]) (.loop ⟨[.slot 8 .int],[9,10,11,23,24,25,26,27,28,29,30,31,32,33,34,35,36,37,38,39,40,41],[],[]⟩ 0 (.seq (.seq (rg [om 23 8,oq 24 (.fa 0 1),oq 25 (.load none 24),oq 26 (.len false 25),oq 27 (.bin .int .lss 23 26)]) (.cond 27 (.skip) (.exit 0))) (.seq (.block 1 (.seq (rg [oq 31 (.fa 0 1),oq 32 (.load none 31),om 33 8,oq 34 (.ia 3 32 33),oq 35 (.load (some 3) 34),oq 36 (.call true [] 321 [35]),om 30 36,oq 37 (.ext 30 0),oq 38 (.ext 30 1),oq 39 (.ext 30 2),om 9 37,om 10 38,om 11 39]) (.seq (rg [om 40 11,oq 41 (.bin .int .neq 40 (ci 0))]) (.cond 41 (.seq (rg [om 42 8,om 43 10,om 44 11,om 2 42,om 3 43,om 4 44]) (.ret)) (.skip))))) (rg [om 28 8,oq 29 (.bin .int .add 28 (ci 1)),om 8 29]))))) (.seq (rg [om 2 (ci (-1)),om 3 (ci (-1)),om 4 (ci 0)]) (.ret))))) 
def lr:TFunc:=⟨1,45,[.tmp 2,.tmp 3,.tmp 4],false,mj,[]⟩
def zgv (a0:LD) (x2:Int):Option (LR Int (Int×Int×Int)) :=
 br (decide (x2 < (a0.length:Int)))
 (bno (zl a0 x2) fun y3 =>
 bno (F321 y3) fun y4 =>
 br (decide (¬ y4.2.2=(0:Int)))
 (qX (some (x2,y4.2.1,y4.2.2)))
 (nxO (some (wi (x2+(1:Int))))))
 (dnO (some x2))
def S319 (a0:LD):Option (Int×Int×Int) :=
 bno (F94 a0) fun y1 =>
 br (decide (¬ y1.2.2=(0:Int)))
 (some (y1.1,y1.2.1,y1.2.2))
 (lp (zgv F321 a0) (0:Int) fun x5 =>
 some ((-1:Int),(-1:Int),(0:Int)))
def P319:=S319 P321 P94
def ir:CSpec:=⟨319,[(.st .outl)],(.tp [.int,.int,.int]),fun x=>P319 x,false,[]⟩
def pG {S:Seat} (h:Ok1 S 319 lr):RtF S [fU,oi] (Rt S ir):=okr h rfl fun x=>by kernel_rfl
def mf:TCode:=.seq (rg [oq 1 (.box 0),om 2 (ci 0)]) (.seq (rg [oq 7 (.load (some 1) 1),oq 8 (.call false [] 319 [7]),om 6 8,oq 9 (.ext 6 0),oq 10 (.ext 6 1),oq 11 (.ext 6 2),om 3 9,om 4 10,om 5 11]) (.seq (rg [om 12 5,om 2 12]) (.ret))) 
def ll:TFunc:=⟨1,13,[.tmp 2],false,mf,[]⟩
def S324 (a0:LD):Option Int :=
 bno (F319 a0) fun y1 =>
 some y1.2.2
def P324:=S324 P319
def fT:CSpec:=⟨324,[(.st .outl)],.int,fun x=>P324 x,false,[]⟩
def pD {S:Seat} (h:Ok1 S 324 ll):RtF S [ir] (Rt S fT):=okr h rfl fun x=>by kernel_rfl
def l8:TCode:=.seq (rg [oq 2 (.box 0),om 4 (ci 0)]) (.seq (rg [oq 6 (.load (some 1) 2),oq 7 (.call false [] 324 [6]),om 5 7]) (.seq (.seq (rg [om 8 5,oq 9 (.bin .int .eql 8 (ci 0))]) (.condJ ⟨[.slot 5 .int],[10,11,12],[],[]⟩ 9 (rg [oq 10 (.load (some 1) 2),om 11 1,oq 12 (.call false [] 122 [10,11]),om 5 12]) (.skip))) (.seq (rg [om 13 5,om 4 13]) (.ret)))) 
def kZ:TFunc:=⟨2,14,[.tmp 4],false,l8,[]⟩
def S335 (a0:LD) (a1:LY):Option Int :=
 bno (F324 a0) fun y1 =>
 jn (σ:=Int) (α:=Int) (br (decide (y1=(0:Int)))
 (bno (F122 a0 a1) fun y2 =>
 zt (some y2))
 (zt (some y1))) fun x3 =>
 some x3
def P335:=S335 P122 P324
def ig:CSpec:=⟨335,[(.st .outl),(.sl .entry)],.int,fun x=>P335 x.1 x.2,false,[]⟩
def px {S:Seat} (h:Ok1 S 335 kZ):RtF S [iE,fT] (Rt S ig):=okr h rfl fun x=>by kernel_rfl
end
end
section
def zjd {d:Dim} (hl:d.members.length<=1000) (i:Int):P100 d i=some (partsOf d.members i):=by
 simp only[P100,S100,zV];rw[zhj (zhh d.members i) d.members.length (fun k acc hk ha => ?_) (fun acc=>by simp[zi5])]
 ·rfl
 ·have e:((k:Nat):Int) < ((d.members.length:Nat):Int):=by omega
  have hr:acc.length+1<=zu:=by unfold zu;omega
  simp only[zi5,e,decide_true,zo,za,Aa hk,zi,zhh,AD,zp hr,zq,qQ];rw[qp (by omega) (by omega)];by_cases h:(d.members[k]).parent=i<;>simp[h]
def P102_eq {d:Dim} (hl:d.members.length<=1000) {k:Nat} (hk:k < d.members.length):P102 d k=some (wU d.members k):=by have e:decide (((List.length (partsOf d.members k):Nat):Int)=0)=decide (partsOf d.members k=[]):=(by congr 1;rw[← Bh];exact propext ⟨fun h=>by omega,fun h=>by omega⟩);simp only[P102,S102,za,Aa hk,zi,zjd hl,wU,e];by_cases h:(d.members[k]).formula=⟨#[]⟩<;>simp[h]
end
section
def zjJ {l:List Int} {n:Int}:(zbP l n).length<=l.length+1∧(n ∉ l->(zbP l n).length=l.length+1):=by
 obtain ⟨w1,w2,w3⟩:=zjm (fun a=>decide (a < n)) l;unfold zbP;generalize (l.takeWhile fun a=>decide (a < n)).length=k at *;simp only;by_cases hk:l[k]? = some n
 ·rw[if_pos hk];exact ⟨by omega,fun h=>absurd (Ae hk) h⟩
 ·rw[if_neg hk];simp only[Bn,AP,Ce,AD];omega
def zgF (l:List Int) (n:Int) (h:l.length<=1000000):zff l n=some (zbP l n):=by
 obtain ⟨t1,t2,t3⟩:=zjm (fun a=>decide (a < n)) l;have hi:zbP l n=if l[(l.takeWhile fun a=>decide (a < n)).length]? = some n then l else l.take (l.takeWhile fun a=>decide (a < n)).length++[n]++l.drop (l.takeWhile fun a=>decide (a < n)).length:=rfl;rw[hi];generalize (l.takeWhile fun a=>decide (a < n)).length=k at *;have hs:=zH (B:=zeg l n) (fun i=>(i:Int)) k (fun i hi=>by
  have hx:=Aa (show i < l.length by omega);have hp:l[i] < n:=of_decide_eq_true (t1 _ (Ae (i:=i) (by rw[List.getElem?_take,if_pos hi,hx])));have e4:wi ((i:Int)+1)=((i+1:Nat):Int):=by rw[qp (by omega) (by omega)];omega
  simp only[zeg];rw[zh,if_pos (by omega)];simp only[za,hx,zi,zq,zX];rw[zh,if_pos hp,e4]
  rfl)
 have dK:lpO (zeg l n) (0:Int)=some (.inl (k:Int)):=by
  rw[show (0:Int)=((0:Nat):Int) from rfl,hs];refine zI ?_;simp only[zeg];by_cases hk:k < l.length
  ·have hx:=Aa hk;have hp:¬ l[k] < n:=of_decide_eq_false (t2 _ hx);rw[zh,if_pos (by omega)];simp only[za,hx,zi,zq,zX];rw[zh,if_neg hp];rfl
  ·rw[zh,if_neg (by omega)];rfl
 simp only[zff,S347,zV,dK,zX]
 have tail:∀ (hk:k<=l.length),(ck (decide (0<=(0:Int)∧(0:Int)<=(k:Int)∧(k:Int)<=((List.length l:Nat):Int))) <|
   ck (decide (List.length (List.take (Int.toNat (k:Int) - Int.toNat (0:Int)) (List.drop (Int.toNat (0:Int)) l))<=zu)) <|
   ck (decide (List.length (List.take (Int.toNat (k:Int) - Int.toNat (0:Int)) (List.drop (Int.toNat (0:Int)) l))+List.length ([n]:List Int)<=zu)) <|
   ck (decide (0<=(k:Int)∧(k:Int)<=((List.length l:Nat):Int)∧((List.length l:Nat):Int)<=((List.length l:Nat):Int))) <|
   ck (decide (List.length ((List.take (Int.toNat (k:Int) - Int.toNat (0:Int)) (List.drop (Int.toNat (0:Int)) l))++([n]:List Int))+List.length (List.take (Int.toNat ((List.length l:Nat):Int) - Int.toNat (k:Int)) (List.drop (Int.toNat (k:Int)) l))<=zu)) <|
   some (((List.take (Int.toNat (k:Int) - Int.toNat (0:Int)) (List.drop (Int.toNat (0:Int)) l))++([n]:List Int))++(List.take (Int.toNat ((List.length l:Nat):Int) - Int.toNat (k:Int)) (List.drop (Int.toNat (k:Int)) l))))=some (l.take k++[n]++l.drop k):=by
  intro hk;have e0:Int.toNat (0:Int)=0:=rfl;rw[e0,Aj,Aj,List.drop_zero,CO,Bz (show (l.drop k).length<=l.length - k by rw[Ce];exact AO _)];rw[zp (by omega),zp (by rw[AP];unfold zu;omega),zp (by rw[AP,AD];unfold zu;omega),zp (by omega),zp (by rw[Bn,AP,AD,Ce];unfold zu;omega)]
 rw[tail t3];by_cases hk:k < l.length
 ·have hx:=Aa hk;rw[zh,if_pos (by omega)];simp only[za,hx,zi,zq,zX];rw[zh];by_cases e:l[k]=n
  ·rw[if_pos e,if_pos (by rw[e])]
  ·rw[if_neg e,if_neg (fun h=>e (Option.some.inj h))]
 ·rw[zh,if_neg (by omega)];simp only[zq,zX,zd];rw[if_neg (by rw[AH (by omega)];simp)]
def P348_eq (l:List Int) (n:Int) (h:l.length<=9223372036854775807):zkj l n=some (zev l n):=by
 simp only[zkj,S348];have h1:=wK (B:=zge l n) (fun y=>decide (y=n)) l true false (fun i y hy=>by
  have hi:=(Ac.1 hy).1;simp only[zge];rw[zh,if_pos (by omega)];simp only[za,hy,zi];rw[qp (by omega) (by omega),zh];by_cases c:y=n<;>simp[c]) (by
  simp only[zge];rw[zh,if_neg (by omega)]
  rfl)
 rw[h1];unfold zev;cases (l.any fun y=>decide (y=n))<;>rfl
section
variable {n:List (List Int)}
structure Bel (n:List (List Int)) (i:Nat) (A:List Int):Prop where
 up:A.Pairwise (· < ·)
 rng:∀ x∈A,0<=x∧x < n.length
 re:∀ x∈A,Reach n i x.toNat
 one:∀ x∈n.getD i [],x∈A
def zf0 {i:Nat} {A:List Int} (h:Bel n i A):A.length<=n.length:=by
 have h1:(A.map Int.toNat).Nodup:=(by rw[List.Nodup,List.pairwise_map];refine List.Pairwise.imp_of_mem ?_ h.up;intro a b ha hb gR;have:=h.rng a ha;have:=h.rng b hb;omega);have:=we _ (List.range n.length) h1 (fun x hx=>by
  obtain ⟨y,hy,rfl⟩:=Am.1 hx;have:=h.rng y hy;exact AU.2 (by omega))
 rwa [Ao,A9] at this
def bel_ins (hr:Rng n) {i:Nat} {A:List Int} (h:Bel n i A) {x y:Int} (hx:x∈A) (hy:y∈n.getD x.toNat []):Bel n i (zbP A y):=by
 obtain ⟨k1,k2⟩:=insI_ok (n:=y) h.up;have hry:=hr x.toNat y hy;refine ⟨k1,fun z hz => ?_,fun z hz => ?_,fun z hz=>(k2 z).2 (.inl (h.one z hz))⟩
 ·rcases (k2 z).1 hz with hz | rfl
  ·exact h.rng z hz
  ·exact hry
 ·rcases (k2 z).1 hz with hz | rfl
  ·exact h.re z hz
  ·exact (h.re x hx).snoc (Am.2 ⟨_,hy,rfl⟩)
def inner4 (hr:Rng n) (hw:∀ k,(n.getD k []).length<=1000) (hn:n.length<=1000) {z:Int} {i:Nat} {A:List Int} (h:Bel n i A) (ag:Bool) {k:Nat} (hk:k < A.length) :
  ∃ r,lpO (zel zff zkj (n,z) (A,ag,(k:Int))) (A,ag,(0:Int))=some r∧∃ j,(r=.inl (A,ag,j)∧∀ y∈n.getD (A[k]).toNat [],y∈A)∨∃ y,r=.inl (zbP A y,true,j)∧y∈n.getD (A[k]).toNat []∧y ∉ A:=by
 have gM:=h.rng _ (Ay hk);have hx:=Aa hk;have ae:(A[k]).toNat < n.length:=by omega
 have hg:n[(A[k]).toNat]? = some (n.getD (A[k]).toNat []):=by rw[Ad,Aa ae];rfl
 have hwk:=hw (A[k]).toNat;have kL:=zf0 h;generalize cK:n.getD (A[k]).toNat []=row at *
 have:=zav (B:=zel zff zkj (n,z) (A,ag,(k:Int))) (fun x=>x.1=A∧x.2.1=ag∧∃ j:Nat,x.2.2=j∧j<=row.length∧∀ y∈row.take j,y∈A) (fun x=>row.length - x.2.2.toNat)
  (fun r=>∃ j,(r=.inl (A,ag,j)∧∀ y∈row,y∈A)∨∃ y,r=.inl (zbP A y,true,j)∧y∈row∧y ∉ A) (fun x hI=>by
   obtain ⟨x1,x2,x3⟩:=x;obtain ⟨kN,oB,j,kE,hj,aK⟩:=hI;simp only at kN oB kE aK;subst kN oB kE;simp only
   have hB:zel zff zkj (n,z) (x1,x2,(k:Int)) (x1,x2,(j:Int))=(match row[j]? with
     | some y=>if zev x1 y=true then some (.nx (x1,x2,((j+1:Nat):Int))) else some (.dn (zbP x1 y,true,(j:Int)))
     | none=>some (.dn (x1,x2,(j:Int)))):=by
    simp only[zel,za,hx,zi];rw[zp ⟨gM.1,gM.2⟩,hg];simp only[zi];by_cases c:j < row.length
    ·have hy:=Aa c;rw[zh,if_pos (by omega),zp ⟨gM.1,gM.2⟩,hy];simp only[zi,P348_eq x1 _ (show x1.length<=9223372036854775807 by omega),zgF x1 _ (show x1.length<=1000000 by omega)];rw[zp ⟨gM.1,gM.2⟩];have e4:wi ((j:Int)+1)=((j+1:Nat):Int):=by rw[qp (by omega) (by omega)];omega
     rw[e4];cases zev x1 row[j]<;>rfl
    ·rw[zh,if_neg (by omega),AH (by omega)];rfl
   rw[hB];cases hy:row[j]? with
   | none =>simp only;have:=List.getElem?_eq_none_iff.1 hy;exact ⟨_,.inl ⟨rfl,fun y hy=>aK y (by rw[Bz this];exact hy)⟩⟩
   | some y =>
    have cH:=(Ac.1 hy).1;by_cases c:zev x1 y=true
    ·simp only[if_pos c];refine ⟨⟨trivial,trivial,j+1,rfl,by omega,fun y' cJ => ?_⟩,by rw[Aj,Aj];omega⟩;rw[BT,hy] at cJ;rcases Al.1 cJ with cJ | cJ
     ·exact aK y' cJ
     ·simp at cJ;subst cJ;exact zbF.1 c
    ·simp only[if_neg c];exact ⟨_,.inr ⟨y,rfl,Ae hy,fun h=>c (zbF.2 h)⟩⟩) (A,ag,(0:Int)) ⟨rfl,rfl,0,rfl,by omega,by simp⟩
 exact this
def inner5 (hr:Rng n) (hw:∀ k,(n.getD k []).length<=1000) (hn:n.length<=1000) {z:Int} {i:Nat} {A:List Int} (h:Bel n i A) :
  ∃ r,lpO (zgs zff zkj (n,z)) (A,false,(0:Int))=some r∧∃ A' ag j,r=.inl (A',ag,j)∧Bel n i A'∧(ag=false->∀ x∈A',∀ y∈n.getD x.toNat [],y∈A')∧(ag=true->A.length < A'.length)∧A.length<=A'.length:=by
 refine zav (B:=zgs zff zkj (n,z)) (fun x=>Bel n i x.1∧(∃ k:Nat,x.2.2=k∧k<=x.1.length∧(x.2.1=false->∀ c∈x.1.take k,∀ y∈n.getD c.toNat [],y∈x.1))∧(x.2.1=true->A.length < x.1.length)∧A.length<=x.1.length) (fun x=>n.length - x.2.2.toNat)
  (fun r=>∃ A' ag j,r=.inl (A',ag,j)∧Bel n i A'∧(ag=false->∀ x∈A',∀ y∈n.getD x.toNat [],y∈A')∧(ag=true->A.length < A'.length)∧A.length<=A'.length) (fun x hI => ?_) (A,false,(0:Int)) ⟨h,⟨0,rfl,by omega,by simp⟩,by simp,AO _⟩
 obtain ⟨B,ag,k'⟩:=x;obtain ⟨hB,⟨k,aJ,hk,bh⟩,gp,kG⟩:=hI;simp only at hB aJ hk bh gp kG;subst aJ;have hbl:=zf0 hB;simp only[zgs];by_cases c:k < B.length
 ·obtain ⟨r,e1,j,e2⟩:=inner4 hr hw hn (z:=z) hB ag c;have e4:wi ((k:Int)+1)=((k+1:Nat):Int):=by rw[qp (by omega) (by omega)];omega
  rw[zh,if_pos (by omega),zV,e1];rcases e2 with ⟨rfl,e3⟩ | ⟨y,rfl,e3,e5⟩
  ·simp only[zX,qQ,e4];refine ⟨⟨hB,⟨k+1,rfl,by omega,fun sM x hx y hy => ?_⟩,gp,kG⟩,by rw[Aj,Aj];omega⟩;rw[BT,Aa c] at hx;rcases Al.1 hx with hx | hx
   ·exact bh sM x hx y hy
   ·simp at hx;subst hx;exact e3 y hy
  ·simp only[zX,qQ,e4];have hl:=(zjJ (l:=B) (n:=y)).2 e5;exact ⟨⟨bel_ins hr hB (Ay c) e3,⟨k+1,rfl,by omega,by simp⟩,fun _=>by omega,by omega⟩,by rw[Aj,Aj];omega⟩
 ·rw[zh,if_neg (by omega)];simp only[kq];refine ⟨B,ag,_,rfl,hB,fun sM x hx=>bh sM x (by rw[Bz (by omega)];exact hx),gp,kG⟩
def inner6 (hr:Rng n) (hw:∀ k,(n.getD k []).length<=1000) (hn:n.length<=1000) {z:Int} {i:Nat} {A:List Int} (h:Bel n i A) :
  ∃ r,lpO (zcu zff zkj (n,z)) (A,true)=some r∧∃ A',r=.inl (A',false)∧Bel n i A'∧∀ x∈A',∀ y∈n.getD x.toNat [],y∈A':=by
 refine zav (B:=zcu zff zkj (n,z)) (fun x=>Bel n i x.1∧(x.2=false->∀ c∈x.1,∀ y∈n.getD c.toNat [],y∈x.1)) (fun x=>2 * (n.length - x.1.length)+(if x.2=true then 1 else 0))
  (fun r=>∃ A',r=.inl (A',false)∧Bel n i A'∧∀ x∈A',∀ y∈n.getD x.toNat [],y∈A') (fun x hI => ?_) (A,true) ⟨h,by simp⟩
 obtain ⟨B,ag⟩:=x;obtain ⟨hB,bh⟩:=hI;simp only at hB bh;cases ag with
 | false =>simp only[zcu,zd,kq];exact ⟨B,rfl,hB,bh rfl⟩
 | true =>
  obtain ⟨r,e1,A',th,j,rfl,e3,e4,e5,e6⟩:=inner5 hr hw hn (z:=z) hB;simp only[zcu,zo,zV];rw[e1];simp only[zX,qQ];have hl:=zf0 e3;refine ⟨⟨e3,e4⟩, ?_⟩;cases th with
  | false=>simp only[As,if_false,if_true];omega
  | true =>have:=e5 rfl;simp only[if_true];omega
def ring_doc (hr:Rng n) (hw:∀ k,(n.getD k []).length<=1000) (hn:n.length<=1000) {z:Int} {i:Nat} (hup:(n.getD i []).Pairwise (· < ·)) :
  ∃ A',lpO (zcu zff zkj (n,z)) (n.getD i [],true)=some (.inl (A',false))∧zkj A' (i:Int)=some (decide (zcT n i=some true)):=by
 obtain ⟨r,e1,A',rfl,e3,e4⟩:=inner6 hr hw hn (z:=z) (i:=i) (A:=n.getD i []) ⟨hup,hr i,fun x hx=>.one (Am.2 ⟨x,hx,rfl⟩),fun x hx=>hx⟩;refine ⟨A',e1, ?_⟩;have hl:=zf0 e3;rw[P348_eq A' _ (by omega)];congr 1;have:zev A' (i:Int)=true↔zcT n i=some true:=by
  rw[zbF,selfN_iff hr];constructor
  ·intro h;have:=e3.re _ h
   rwa [Aj] at this
  ·intro h;have key:=zcH (S:=fun j=>((j:Nat):Int)∈A') (n:=n) (fun j hj k hk=>by
    obtain ⟨x,hx,rfl⟩:=Am.1 hk;have h0:=(hr j x hx).1;rw[show ((x.toNat:Nat):Int)=x by omega];exact e4 _ hj x (by rw[Aj];exact hx)) h
   exact key fun k hk=>(by obtain ⟨x,hx,rfl⟩:=Am.1 hk;have h0:=(hr i x hx).1;rw[show ((x.toNat:Nat):Int)=x by omega];exact e3.one x hx)
 cases hb:zev A' (i:Int) with
 | true=>rw[decide_eq_true (this.1 hb)]
 | false=>rw[decide_eq_false fun h=>by rw[this.2 h] at hb;cases hb]
end
def zaB:∀ (l acc:List Int),(l.foldl zbP acc).length<=acc.length+l.length
 | [],acc=>by simp
 | a :: r,acc=>by
  have h1:=zaB r (zbP acc a);have h2:=(zjJ (l:=acc) (n:=a)).1;simp only[Bf,AM];omega
section
variable {d:Dim}
def zfI {l:List Int}:zev (zez l) (-1)=true↔(-1:Int)∈l:=by rw[zbF];exact (ww l).2 (-1)
def refG {γ:Type} (d:Dim) (l:List Node) (e:γ) (j:Nat):Option γ:=match l[j]? with
 | some x=>if x.op=2∧zU d.members x.name < 0 then some e else none
 | none=>none
def refG_find {γ:Type} (l:List Node) (e:γ):(List.range l.length).findSome? (refG d l e)=if zev (zez ((yW l).map (zU d.members))) (-1)=true then some e else none:=by
 cases hf:(List.range l.length).findSome? (refG d l e) with
 | some r =>
  obtain ⟨j,_,hj⟩:=Ax hf;unfold refG at hj;split at hj
  ·rename_i x hx;split at hj
   ·rename_i c;have hm:zev (zez ((yW l).map (zU d.members))) (-1)=true:=(by rw[zfI];refine Am.2 ⟨x.name,Am.2 ⟨x,Bu.2 ⟨Ae hx,by simpa using c.1⟩,rfl⟩, ?_⟩;have:=zcz d.members x.name;omega);rw[if_pos hm,hj]
   ·cases hj
  ·cases hj
 | none =>have aZ:=A8.1 hf;have hm:¬ zev (zez ((yW l).map (zU d.members))) (-1)=true:=(by rw[zfI];intro hm;obtain ⟨s,hs,hw⟩:=Am.1 hm;obtain ⟨x,hx,rfl⟩:=Am.1 hs;obtain ⟨aO,dx⟩:=Bu.1 hx;obtain ⟨j,hj⟩:=List.getElem?_of_mem aO;have:=aZ j (AU.2 (Ac.1 hj).1);unfold refG at this;rw[hj] at this;simp only at this;rw[if_pos ⟨by simpa using dx,by omega⟩] at this;cases this);rw[if_neg hm]
def refs_doc (hl:d.members.length<=1000) {l:List Node} (oC:l.length<=1000) (x2:List (List Int)×Int) (y5:List Node×Int×Int) (hy:y5.1=l) :
  lpO (zen zff P96 d x2 y5) (([]:List Int),(0:Int))=some (if zev (zez ((yW l).map (zU d.members))) (-1)=true then .inr (.inr (.fin (([]:List (List Int)),x2.2,(5:Int)))) else .inl (zez ((yW l).map (zU d.members)),(l.length:Int))):=by
 have hs:=q8 (B:=zen zff P96 d x2 y5) (fun j=>(((yW (l.take j)).map (zU d.members)).foldl zbP [],(j:Int))) l.length
  (refG d l (Sum.inr (LR.fin (([]:List (List Int)),x2.2,(5:Int)))))
  (d:=(zez ((yW l).map (zU d.members)),(l.length:Int))) (fun j hj _=>by
   have hx:=Aa hj;have e4:wi ((j:Int)+1)=((j+1:Nat):Int):=by rw[qp (by omega) (by omega)];omega
   have hb:(((yW (l.take j)).map (zU d.members)).foldl zbP []).length<=1000:=(by refine Aw (zaB _ _) ?_;have:=zbn (l.take j);rw[AP] at this;rw[Ao];simp only[Bq];omega);unfold refG;simp only[zen,hy];rw[zh,if_pos (by omega),hx];simp only[za,hx,zi];rw[zaU hx,zh];by_cases c:l[j].op=2
   ·rw[if_neg (fun h=>h c),if_pos c,P96_eq d _ (by omega)];simp only[zi];rw[zh];by_cases c2:zU d.members l[j].name < 0
    ·rw[if_pos c2,if_pos ⟨c,c2⟩];rfl
    ·rw[if_neg c2,if_neg (fun h=>c2 h.2),zgF _ _ (by omega)];simp only[zi,zq,zX,qQ,e4,Bj,CI];rfl
   ·rw[if_pos c,if_neg c,if_neg (fun h=>c h.1)];simp only[zq,zX,qQ,e4,BV]) (fun _=>by
   simp only[zen,hy];rw[zh,if_neg (by omega),AZ,zhq]
   rfl)
 have e0:(([]:List Int),(0:Int))=(((yW (l.take 0)).map (zU d.members)).foldl zbP [],((0:Nat):Int)):=rfl;rw[e0,hs,refG_find];by_cases c:zev (zez ((yW l).map (zU d.members))) (-1)=true
 ·rw[if_pos c,if_pos c]
 ·rw[if_neg c,if_neg c]
def parts_doc (hl:d.members.length<=1000) (ps:List Int) (hp:∀ x∈ps,∃ k:Nat,x=k∧k < d.members.length) (hn:ps.length<=1000) :
  lpO (zem zff d ps) (([]:List Int),(0:Int))=some (.inl (zez (ps.filter (fun k=>decide (¬ sgn d.members k=0))),(ps.length:Int))):=by
 have hs:=zH (B:=zem zff d ps) (fun j=>(((ps.take j).filter (fun k=>decide (¬ sgn d.members k=0))).foldl zbP [],(j:Int))) ps.length (fun j hj=>by
   have hx:=Aa hj;obtain ⟨k,hk,gM⟩:=hp _ (Ay hj);have e4:wi ((j:Int)+1)=((j+1:Nat):Int):=by rw[qp (by omega) (by omega)];omega
   have hb:(((ps.take j).filter (fun k=>decide (¬ sgn d.members k=0))).foldl zbP []).length<=1000:=(by refine Aw (zaB _ _) ?_;have:=BC (fun k=>decide (¬ sgn d.members k=0)) (ps.take j);rw[AP] at this;simp only[Bq];omega);have hg:=Aa gM;have fH:sgn d.members ps[j]=(d.members[k]).sign:=by unfold sgn;rw[hk,Aj,hg]
   have rI:ps.take (j+1)=ps.take j++[ps[j]]:=by rw[BT,hx];rfl
   simp only[zem];rw[zh,if_pos (by omega)];simp only[za,hx,zi];rw[hk,za,hg];simp only[zi];rw[zh,rI,CD];by_cases c:(d.members[k]).sign=0
   ·rw[if_neg (fun h=>h c)];simp only[zq,zX,qQ,e4];rw[show List.filter (fun k=>decide (¬ sgn d.members k=0)) [ps[j]]=[] by rw[List.filter_cons_of_neg (by rw[fH,c];decide)];rfl,BV]
   ·rw[if_pos c,zgF _ _ (by omega)];simp only[zi,zq,zX,qQ,e4];rw[show List.filter (fun k=>decide (¬ sgn d.members k=0)) [ps[j]]=[ps[j]] by rw[List.filter_cons_of_pos (by rw[fH];exact decide_eq_true c)];rfl,CI,hk]
    rfl)
 have e0:(([]:List Int),(0:Int))=(((ps.take 0).filter (fun k=>decide (¬ sgn d.members k=0))).foldl zbP [],((0:Nat):Int)):=rfl;rw[e0,hs,AZ,zhq];refine zI ?_;simp only[zem];rw[zh,if_neg (by omega)];rfl
def allN_up (d:Dim) (i:Nat):((jJ d).getD i []).Pairwise (· < ·):=by
 unfold jJ;simp only[Ad,Ah];by_cases hi:i < d.members.length
 ·rw[A4 hi];exact (ww _).1
 ·rw[AH (by rw[A9];omega)];exact List.Pairwise.nil
def P321_eq (d:Dim):P321 d=some (if (qB d).2=0 then jJ d else [],(qB d).1,(qB d).2):=by
 simp only[P321,S321,P95_eq,zi];rw[zh];by_cases h0:(zL d).2=0
 ·have ok:=zhF.1 h0;obtain ⟨eH,hl⟩:=ok.len;rw[if_neg (fun h=>h h0),show qB d=zbm d from if_neg (fun h=>h h0)];unfold zbm;have L1:=q8 (B:=zgt P100 P247 zff P96 d) (fun i=>((List.range i).map (qL d),(i:Int))) d.members.length (fun i=>((zca d i).map fun e=>((i:Int),e)).map fun r=>(([]:List (List Int)),r.1,r.2)) (d:=(jJ d,(d.members.length:Int))) (fun i hi hg=>by
   have hx:=Aa hi;have e4:wi ((i:Int)+1)=((i+1:Nat):Int):=by rw[qp (by omega) (by omega)];omega
   have aD:(List.length ((List.range i).map (qL d))+1<=zu):=by rw[Ao,A9];unfold zu;omega
   simp only[zgt];rw[zh,if_pos (by omega)];simp only[za,hx,zi];rw[zh];by_cases c:(d.members[i]).formula=⟨#[]⟩
   ·rw[if_neg (fun h=>h c),zjd (by omega)];have dT:qL d i=zez (cntP2 d i):=by unfold qL zif;rw[hx];simp only;rw[if_pos c]
    have hm:zca d i=none:=(by unfold zca;rw[hx];simp only;rw[if_neg (fun h=>h.1 c),if_neg];rw[dT,zfI];intro h;obtain ⟨k,e,_⟩:=zas (Bu.1 h).1;omega);simp only[zi];rw[zV,parts_doc (by omega) _ (fun x hx=>zas hx) (Aw (zaz _ _) (by omega)),hm];simp only[zX,zq,Bt];rw[show zez (List.filter (fun k=>decide (¬ sgn d.members k=0)) (partsOf d.members i))=qL d i from dT.symm,zp (by simp only[AD];exact aD),e4,Ci,Bj];rfl
   ·rw[if_pos c,P247_eq];simp only[zi];rw[zh];by_cases c2:(rdT (d.members[i]).formula).2.2=0
    ·have dT:qL d i=zez ((yW (rdT (d.members[i]).formula).1).map (zU d.members)):=by unfold qL zif;rw[hx];simp only;rw[if_neg c]
     have hm:zca d i=if zev (qL d i) (-1)=true then some 5 else none:=by unfold zca;rw[hx];simp only;rw[if_neg (fun h=>h.2 c2)]
     rw[if_neg (fun h=>h c2),zV,refs_doc (by omega) (Aw (zfs _) (by omega)) _ _ rfl,hm,← dT];by_cases c3:zev (qL d i) (-1)=true
     ·rw[if_pos c3,if_pos c3];rfl
     ·rw[if_neg c3,if_neg c3];simp only[zX,zq,Bt];rw[zp (by simp only[AD];exact aD),e4,Ci,Bj];rfl
    ·have hm:zca d i=some (rdT (d.members[i]).formula).2.2:=by unfold zca;rw[hx];simp only;rw[if_pos ⟨c,c2⟩]
     rw[if_pos c2,hm]
     rfl) (fun _=>by
   simp only[zgt];rw[zh,if_neg (by omega)]
   rfl)
  have e0:(([]:List (List Int)),(0:Int))=((List.range 0).map (qL d),((0:Nat):Int)):=rfl;rw[zV,e0,L1,zZ];cases hs:(List.range d.members.length).findSome? (fun i=>(zca d i).map fun e=>((i:Int),e)) with
  | some r =>have hr:r.2≠0:=(by obtain ⟨i,_,hi⟩:=Ax hs;obtain ⟨e,he,rfl⟩:=Ag.1 hi;exact zfy he);simp only[AA,jn_r,if_neg hr]
  | none =>
   have aZ:∀ i,i < d.members.length->zca d i=none:=fun i hi=>(by have:=A8.1 hs i (AU.2 hi);simpa using this);have ca:=zf6 aZ;simp only[Bt,zX];have L2:=q8 (B:=zgr zff zkj (jJ d,(d.members.length:Int))) (fun i=>(i:Int)) d.members.length (fun i=>((zcU d i).map fun e=>((i:Int),e)).map fun r=>(([]:List (List Int)),r.1,r.2)) (d:=((d.members.length:Nat):Int)) (fun i hi hg=>by
    have e4:wi ((i:Int)+1)=((i+1:Nat):Int):=by rw[qp (by omega) (by omega)];omega
    have iR:i < (jJ d).length:=by rw[zaL];exact hi
    obtain ⟨A',e1,e2⟩:=ring_doc ca (allN_w hl) (by rw[zaL];omega) (z:=(d.members.length:Int)) (allN_up d i);have nF:(jJ d)[i]? = some ((jJ d).getD i []):=by rw[Ad,Aa iR];rfl
    simp only[zgr];rw[zh,if_pos (by omega),zp ⟨by omega,by omega⟩,Aj,nF];simp only[zi];rw[zV,e1];simp only[zX];rw[e2];simp only[zi];unfold zcU;rw[zh];by_cases c:zcT (jJ d) i=some true
    ·rw[if_pos c,if_pos c];rfl
    ·rw[if_neg c,if_neg c];simp only[qQ,e4,Bt]) (fun _=>by
    simp only[zgr];rw[zh,if_neg (by rw[zaL];omega)]
    rfl)
   rw[zV,show (0:Int)=((0:Nat):Int) from rfl,L2,zZ];cases cV:(List.range d.members.length).findSome? (fun i=>(zcU d i).map fun e=>((i:Int),e)) with
   | some r =>
    have hr:r.2≠0:=by
     obtain ⟨i,_,hi⟩:=Ax cV;obtain ⟨e,he,rfl⟩:=Ag.1 hi;unfold zcU at he;split at he
     ·cases he;show (8:Int)≠0;decide
     ·cases he
    simp only[AA,jn_r];rw[if_neg (show ¬ r.2=((0:Nat):Int) from hr)]
   | none=>rfl
 ·rw[if_pos h0,show qB d=zL d from if_pos h0,if_neg h0]
end
end
section
section
variable {n:List (List Int)} (hr:Rng n) (hn:n.length<=100000) (hw:∀ i,(n.getD i []).length<=100000)
include hr hn hw
omit hn in
def doc_ok {out:List Nat} {z:Int×List Bool} {i:Nat} (hi:i < n.length) (l:List Int) (b:Bool) :
  ∃ j,lpO (zbd n (qA out,(i:Int),dnL n.length out)) (b,(0:Int))=some (.inl (b && (nd n i).all fun k=>out.contains k,j)):=by
 have hg:n[i]? = some (n.getD i []):=by rw[Ad,Aa hi];rfl
 have hwi:=hw i;have nf:=hr i;have hnd:nd n i=(n.getD i []).map Int.toNat:=rfl;rw[hnd];generalize n.getD i []=row at *;have key:∀ (m k:Nat) (b:Bool),k+m=row.length->∃ j,lpO (zbd n (qA out,(i:Int),dnL n.length out)) (b,(k:Int))=some (.inl (b && ((row.drop k).map Int.toNat).all fun k=>out.contains k,j)):=by
  intro m
  induction m with
  | zero =>intro k b hk;refine ⟨(k:Int), ?_⟩;rw[List.drop_of_length_le (by omega)];refine zI ?_;simp only[zbd,za,hg,zi];rw[zh,if_neg (by omega)];simp
  | succ m ih =>
   intro k b hk;have hx:=Aa (show k < row.length by omega);have rN:=nf _ (Ae hx);have e4:wi ((k:Int)+1)=((k+1:Nat):Int):=by rw[qp (by omega) (by omega)];omega
   cases b with
   | false =>refine ⟨(k:Int), ?_⟩;rw[Cr];refine zI ?_;simp only[zbd,za,hg,zi];rw[zh,if_pos (by omega)];rfl
   | true =>
    obtain ⟨j,hj⟩:=ih (k+1) (out.contains (row[k]).toNat) (by omega);refine ⟨j, ?_⟩;have hB:zbd n (qA out,(i:Int),dnL n.length out) (true,(k:Int))=some (.nx (out.contains (row[k]).toNat,((k+1:Nat):Int))):=by
     simp only[zbd,za,hg,zi];rw[zh,if_pos (by omega)];simp only[zq,zX,zo];rw[hx];simp only[zi];rw[zp ⟨rN.1,by rw[wH];exact rN.2⟩];have h1:=zdM (m:=n.length) (out:=out) (j:=(row[k]).toNat) (by omega);have h2:(row[k]).toNat < (dnL n.length out).length:=by rw[wH];omega
     rw[Aa h2];rw[Ad,Aa h2] at h1;simp only[zi,e4];rw[show (dnL n.length out)[(row[k]).toNat]=out.contains (row[k]).toNat from h1];rfl
    rw[wg hB,hj,Ba (show k < row.length by omega),Az,Bo,Bi]
 obtain ⟨j,hj⟩:=key row.length 0 b (by omega);exact ⟨j,by rw[List.drop_zero] at hj;exact hj⟩
def doc_step {out:List Nat} (ho:out.length<=100000) {i:Nat} (hi:i < n.length) :
  zek n (qA out,(i:Int),dnL n.length out)=if (!out.contains i && (nd n i).all fun k=>out.contains k)=true then some (.dn (qA (out++[i]),(i:Int),dnL n.length (out++[i]))) else some (.nx (qA out,((i+1:Nat):Int),dnL n.length out)):=by
 have hd:(dnL n.length out)[i]? = some (out.contains i):=by
  have h1:=zdM (out:=out) hi;have h2:i < (dnL n.length out).length:=by rw[wH];exact hi
  rw[Aa h2];rw[Ad,Aa h2] at h1;exact congrArg some h1
 have e4:wi ((i:Int)+1)=((i+1:Nat):Int):=by rw[qp (by omega) (by omega)];omega
 obtain ⟨j,hj⟩:=doc_ok hr hw (out:=out) (z:=(0,[])) hi [] (!out.contains i);simp only[zek];rw[zh,if_pos (by omega),zp ⟨by omega,by rw[wH];omega⟩,Aj,hd];simp only[zi];rw[zV,hj];simp only[zX];by_cases hall:(!out.contains i && (nd n i).all fun k=>out.contains k)=true
 ·rw[hall,zo,if_pos rfl,zp ⟨by omega,by rw[wH];omega⟩];rw[zp (by unfold qA;rw[Ao];simp only[AD];unfold zu;omega),dnL_set hi];unfold qA;rw[Bj];rfl
 ·rw[BA] at hall;rw[hall,zd,e4];rfl
def zjT {out:List Nat} (ho:out.length<=100000):∀ (m k:Nat),k+m=n.length->lpO (zek n) (qA out,(k:Int),dnL n.length out) =
  some (.inl (match (List.range' k m).find? fun i => !out.contains i && (nd n i).all fun k=>out.contains k with | some i=>(qA (out++[i]),(i:Int),dnL n.length (out++[i])) | none=>(qA out,(n.length:Int),dnL n.length out)))
 | 0,k,hk=>by
  obtain rfl:k=n.length:=by omega
  refine zI ?_;simp only[zek];rw[zh,if_neg (by omega)];rfl
 | m+1,k,hk=>by
  have hs:=doc_step hr hn hw ho (i:=k) (by omega);rw[List.range'_succ,List.find?_cons];by_cases c:(!out.contains k && (nd n k).all fun k=>out.contains k)=true
  ·rw[if_pos c] at hs;rw[zI hs];simp only[c]
  ·rw[if_neg c] at hs;rw[BA] at c;rw[wg hs,zjT ho m (k+1) (by omega)];simp only[c]
def zhE (ha:Acyc n):∀ (f:Nat) (out:List Nat),yu n out->out.length+f=n.length->lpO (zej n) (qA out,dnL n.length out)=some (.inl (qA (je n f out),dnL n.length (je n f out)))
 | 0,out,ho,hl=>by
  refine zI ?_;simp only[zej];rw[zh,if_neg (by unfold qA;rw[Ao];omega)];rfl
 | f+1,out,ho,hl=>by
  obtain ⟨i,hi⟩:=zb8 hr ha ho (by omega);have aK:=zjT hr hn hw (out:=out) (by omega) n.length 0 (by omega);rw[← B9] at aK;have aA:(List.range n.length).find? (fun i => !out.contains i && (nd n i).all fun k=>out.contains k)=some i:=hi;rw[aA] at aK;have bz:zej n (qA out,dnL n.length out)=some (.nx (qA (out++[i]),dnL n.length (out++[i]))):=(by simp only[zej];rw[zh,if_pos (by unfold qA;rw[Ao];omega),zV,show (0:Int)=((0:Nat):Int) from rfl,aK];rfl);rw[wg bz,zhE ha f _ (ho.add hi) (by simp;omega)];simp only[je,hi]
def P322_eq (ha:Acyc n):P322 n=some (qA (jf n)):=by
 simp only[P322,S322];rw[zp ⟨by omega,Ca _,by unfold zu;omega⟩,Aj,zV];have h:=zhE hr hn hw ha n.length [] (.nil n) (by simp);have e:dnL n.length []=List.replicate n.length false:=by
  unfold dnL;apply B1;intro j;rw[Ah,Bv];by_cases hj:j < n.length
  ·rw[A4 hj,if_pos hj];rfl
  ·rw[AH (by rw[A9];omega),if_neg hj];rfl
 rw[e] at h;rw[show (([]:List Int),List.replicate n.length false)=(qA [],List.replicate n.length false) from rfl,h];rfl
end
def zaN (o:List Dim) (i:Nat):Option (Int×Int×Int):=match o[i]? with
 | some d=>if ¬ (qB d).2=0 then some ((i:Int),(qB d).1,(qB d).2) else none
 | none=>none
def zaZ (o:List Dim):Int×Int×Int:=if ¬ (ja o).2.2=0 then ja o else match (List.range o.length).findSome? (zaN o) with
 | some r=>r
 | none=>(-1, -1,0)
def zjq {o:List Dim} {i:Nat} {r:Int×Int×Int} (h:zaN o i=some r):¬ r.2.2=0:=by
 unfold zaN at h;split at h
 ·split at h
  ·rename_i c;cases h;exact c
  ·cases h
 ·cases h
def P319_eq (o:List Dim):P319 o=some (zaZ o):=by
 simp only[P319,S319,P94_eq,zi];rw[zh];unfold zaZ;by_cases h0:(ja o).2.2=0
 ·obtain ok:=zbs.1 h0;have hl:=ok.len;rw[if_neg (fun h=>h h0),if_neg (fun h=>h h0)];have L:=jj (B:=zgv P321 o) o.length (zaN o) (fun i hi=>by
   have hx:=Aa hi;simp only[zgv];rw[zh,if_pos (by omega)];simp only[za,hx,zi,P321_eq];unfold zaN;rw[hx,zh];simp only;rw[qp (by omega) (by omega)];by_cases c:(qB o[i]).2=0
   ·rw[if_neg (fun h=>h c),if_neg (fun h=>h c)];rfl
   ·rw[if_pos c,if_pos c]
    rfl) (by
   simp only[zgv];rw[zh,if_neg (by omega)]
   rfl)
  rw[zV,L];cases (List.range o.length).findSome? (zaN o)<;>rfl
 ·rw[if_pos h0,if_pos h0]
def P320_eq (o:List Dim):P320 o=some ((zaZ o).1,(zaZ o).2.1,zB (zaZ o).2.2):=by
 simp only[P320,S320,P14_eq,zi,zW];unfold zaZ;by_cases h0:(ja o).2.2=0
 ·obtain ok:=zbs.1 h0;have hl:=ok.len;rw[decide_eq_true h0,Bm,zd,if_neg (fun h=>h h0)];have L:=jj (B:=zgu P315 o) o.length (fun i=>(zaN o i).map fun r=>(r.1,r.2.1,zB r.2.2)) (fun i hi=>by
   have hx:=Aa hi;simp only[zgu];rw[zh,if_pos (by omega)];simp only[za,hx,zi,P315_eq,zW];unfold zaN;rw[hx,qp (by omega) (by omega)];simp only;by_cases c:(qB o[i]).2=0
   ·rw[decide_eq_true c,if_neg (fun h=>h c)];rfl
   ·rw[decide_eq_false c,if_pos c]
    rfl) (by
   simp only[zgu];rw[zh,if_neg (by omega)]
   rfl)
  rw[zV,L,zZ];cases (List.range o.length).findSome? (zaN o)<;>rfl
 ·rw[decide_eq_false h0,BH,zo,if_pos h0]
def P352_eq (o:List Dim):P352 o=some (zB (zaZ o).2.2):=by simp only[P352,S352,P320_eq,zi]
def P324_eq (o:List Dim):P324 o=some (zaZ o).2.2:=by simp only[P324,S324,P319_eq,zi]
end
section
def nvN (s:ByteArray) (a:Nat):Nat->Nat
 | 0=>0
 | k+1=>nvN s a k * 10+(pk s (a+k) - 48)
def zjx {s:ByteArray} {a:Nat}:∀ (k:Nat),(∀ j,j < k->dgB (pk s (a+j))=true)->nvN s a k < 10 ^ k
 | 0,_=>by show 0 < 1;decide
 | k+1,h=>by
  have h1:=zjx k fun j hj=>h j (by omega);have h2:=h k (by omega);simp only[dgB,Ar,decide_eq_true_eq] at h2;simp only[nvN,C3];omega
def zji:∀ (ds:List UInt8) (acc k:Nat) (c:UInt8),(∀ c∈ds,48<=c.toNat∧c.toNat<=57)->48<=c.toNat∧c.toNat<=57->acc < 10 ^ k->k+ds.length+1<=15->∀ u,Lib.parseUint10 acc ds=.ok u->Lib.parseUint10 acc (ds++[c])=.ok (u * 10+(c.toNat - 48))
 | [],acc,k,c,_,hc,ha,hl,u,h=>by
  have hp:(10:Nat) ^ k<=10 ^ 15:=BQ (by decide) (by simp at hl;omega);have hq:(10:Nat) ^ 15=1000000000000000:=by decide
  simp only[Lib.parseUint10] at h;injection h with h;subst h;simp only[AL,Lib.parseUint10];rw[if_pos hc,if_neg (by omega),if_neg (by omega)]
 | d :: r,acc,k,c,hd,hc,ha,hl,u,h=>by
  obtain ⟨d1,d2⟩:=hd d (by simp);simp only[AM] at hl;have hp:(10:Nat) ^ k<=10 ^ 15:=BQ (by decide) (by omega);have hs:(10:Nat) ^ (k+1)=10 ^ k * 10:=C3 ..;have hq:(10:Nat) ^ 15=1000000000000000:=by decide
  simp only[AF,Lib.parseUint10] at h ⊢;rw[if_pos ⟨d1,d2⟩,if_neg (by omega),if_neg (by omega)] at h ⊢;exact zji r _ (k+1) c (fun c hc=>hd c (Af _ hc)) hc (by omega) (by omega) u h
def nv_uint {s:ByteArray} {a:Nat}:∀ (k:Nat),k<=14->(∀ j,j < k->dgB (pk s (a+j))=true)->Lib.parseUint10 0 (s.extract a (a+k)).data.toList=.ok (nvN s a k)
 | 0,_,_=>by
  rw[wF];simp[Lib.parseUint10,nvN]
 | k+1,hk,h=>by
  have ih:=nv_uint k (by omega) fun j hj=>h j (by omega);have hg:=h k (by omega);have ae:=zc0 hg;obtain ⟨p1,p2⟩:=zb2 ae;have e:(s.extract a (a+(k+1))).data.toList=(s.extract a (a+k)).data.toList++[s.data[a+k]'ae]:=(by rw[wF,wF,show a+(k+1) - a=k+1 by omega,show a+k - a=k by omega,BT,BI,BO,p1];rfl);have sA:∀ c∈(s.extract a (a+k)).data.toList,48<=c.toNat∧c.toNat<=57:=fun c hc=>(by rw[wF,show a+k - a=k by omega] at hc;obtain ⟨j,hj,rfl⟩:=BG hc;have a8:j < k:=(by rw[AP] at hj;omega);have hd:=h j (by omega);have cH:=zc0 hd;rw[(zb2 cH).2] at hd;simp only[List.getElem_take,C4,Array.getElem_toList];simpa[dgB] using hd);have hc:48<=(s.data[a+k]'ae).toNat∧(s.data[a+k]'ae).toNat<=57:=(by rw[p2] at hg;simpa[dgB] using hg);have hlen:(s.extract a (a+k)).data.toList.length<=k:=(by rw[wF,AP];omega);rw[e,zji _ 0 0 _ sA hc (by decide) (by omega) _ ih];simp only[nvN,p2]
def nv_atoi {s:ByteArray} {a k:Nat} (h0:0 < k) (hk:k<=14) (h:∀ j,j < k->dgB (pk s (a+j))=true):(zcr (s.extract a (a+k))).1=(nvN s a k:Int):=by
 have hu:=nv_uint k hk h;have ae:=zjx k h;have ft:=h 0 h0;rw[BF] at ft;have hl:=zc0 ft;obtain ⟨p1,p2⟩:=zb2 hl;have e3:(10:Nat) ^ k<=10 ^ 15:=BQ (by decide) (by omega);have e4:(10:Nat) ^ 15=1000000000000000:=by decide
 have e:∃ r,(s.extract a (a+k)).data.toList=s.data[a]'hl :: r:=(by obtain ⟨m,rfl⟩:∃ m,k=m+1:=⟨k - 1,by omega⟩;rw[wF,show a+(m+1) - a=m+1 by omega];rw[Ba (by show a < s.size;exact hl),Cg];exact ⟨_,rfl⟩);obtain ⟨r,hr⟩:=e;rw[hr] at hu;have hc:48<=(s.data[a]'hl).toNat∧(s.data[a]'hl).toNat<=57:=(by rw[p2] at ft;simpa[dgB] using ft);unfold zcr;have:Lib.atoiAll (s.extract a (a+k)).data.toList=.ok (nvN s a k:Int):=(by rw[hr];simp only[Lib.atoiAll,Lib.parseMag];rw[if_neg (show ¬ ((s.data[a]'hl).toNat=43∨(s.data[a]'hl).toNat=45) by omega),if_neg (by simp),hu];simp only;rw[if_neg (by omega),if_neg (by omega),if_neg (by omega)]);rw[this]
end
end Ab
