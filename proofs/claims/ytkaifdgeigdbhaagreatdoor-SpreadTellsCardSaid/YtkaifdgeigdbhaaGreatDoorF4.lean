import Derived.Test.YtkaifdgeigdbhaaGreatDoorE2
set_option linter.all false
noncomputable section
namespace Ab
open Go
section
set_option maxRecDepth 100000
section
variable (F100:Dim->Int->(Option LI)) (F122:LD->LY->(Option Int)) (F247:ByteArray->(Option (LN×Int×Int))) (F319:LD->(Option (Int×Int×Int))) (F321:Dim->(Option ((List LI)×Int×Int))) (F324:LD->(Option Int)) (F347:LI->Int->(Option LI)) (F348:LI->Int->(Option Bool)) (F94:LD->(Option (Int×Int×Int))) (F95:Dim->(Option (Int×Int))) (F96:Dim->ByteArray->(Option Int))
def tc347:TCode:=.seq (rg [om 4 cn]) (.seq (rg [om 5 (ci 0)]) (.seq (.loop ⟨[.slot 5 .int],[7,8,9,10,11,12,13,14,15,16,17,18,19,20],[],[]⟩ 0 (.seq (.seq (.regionJ ⟨[.slot 18 .bool],[7,8,9,10,11,12,13,14,15,16,17],[],[]⟩ [om 7 5,om 8 0,oq 9 (.len false 8),oq 10 (.bin .int .lss 7 9),om 11 10,og 12 (.mov 0) 11 true [],og 13 (.mov 5) 11 true [],og 14 (.ia 1 12 13) 11 true [],og 15 (.load none 14) 11 true [],og 16 (.mov 1) 11 true [],og 17 (.bin .int .lss 15 16) 11 true [],oq 18 (.pick 11 17 (cb false))] [] false) (.cond 18 (.skip) (.exit 0))) (.block 1 (rg [om 19 5,oq 20 (.bin .int .add 19 (ci 1)),om 5 20])))) (.seq (.seq (.regionJ ⟨[.slot 32 .bool],[21,22,23,24,25,26,27,28,29,30,31],[],[]⟩ [om 21 5,om 22 0,oq 23 (.len false 22),oq 24 (.bin .int .lss 21 23),om 25 24,og 26 (.mov 0) 25 true [],og 27 (.mov 5) 25 true [],og 28 (.ia 1 26 27) 25 true [],og 29 (.load none 28) 25 true [],og 30 (.mov 1) 25 true [],og 31 (.bin .int .eql 29 30) 25 true [],oq 32 (.pick 25 31 (cb false))] [] false) (.cond 32 (.seq (rg [om 33 0,om 4 33]) (.ret)) (.skip))) (.seq (rg [om 6 cn]) (.seq (rg [om 34 6,om 35 0,om 36 5,oq 37 (.slc 1 35 none (some 36)),oq 38 (.app 1 34 37),om 6 38]) (.seq (rg [om 39 6,om 40 1,oq 41 (.bslice false 1 [.int .i64 0] 1 [(0,40)]),oq 42 (.app 1 39 41),om 6 42]) (.seq (rg [om 43 6,om 44 0,om 45 5,oq 46 (.slc 1 44 (some 45) none),oq 47 (.app 1 43 46),om 4 47]) (.ret)))))))) 
def tf347:TFunc:=⟨2,48,[.tmp 4],false,tc347,[]⟩
def zeM (a0:LI) (a1:Int) (x1:Int):Option (LR Int LI) :=
 jn (σ:=Bool) (α:=(LR Int (List Int))) (br (decide (x1 < (a0.length:Int)))
 (bno (zo a0 x1) fun y2 =>
 zq (some (decide (y2 < a1))))
 (zq (some false))) fun x3 =>
 br x3
 (nxO (some (wi (x1+(1:Int)))))
 (dnO (some x1))
def S347 (a0:LI) (a1:Int):Option LI :=
 lp (zeM a0 a1) (0:Int) fun x4 =>
 jn (σ:=Bool) (α:=(List Int)) (br (decide (x4 < (a0.length:Int)))
 (bno (zo a0 x4) fun y5 =>
 zq (some (decide (y5=a1))))
 (zq (some false))) fun x6 =>
 br x6
 (some a0)
 (ck (decide (0<=(0:Int)∧(0:Int)<=x4∧x4<=(a0.length:Int))) <|
 ck (decide (List.length (List.take (Int.toNat x4 - Int.toNat (0:Int)) (List.drop (Int.toNat (0:Int)) a0))<=zH)) <|
 ck (decide (List.length (List.take (Int.toNat x4 - Int.toNat (0:Int)) (List.drop (Int.toNat (0:Int)) a0))+List.length ([a1]:List Int)<=zH)) <|
 ck (decide (0<=x4∧x4<=(a0.length:Int)∧(a0.length:Int)<=(a0.length:Int))) <|
 ck (decide (List.length ((List.take (Int.toNat x4 - Int.toNat (0:Int)) (List.drop (Int.toNat (0:Int)) a0))++([a1]:List Int))+List.length (List.take (Int.toNat (a0.length:Int) - Int.toNat x4) (List.drop (Int.toNat x4) a0))<=zH)) <|
 some (((List.take (Int.toNat x4 - Int.toNat (0:Int)) (List.drop (Int.toNat (0:Int)) a0))++([a1]:List Int))++(List.take (Int.toNat (a0.length:Int) - Int.toNat x4) (List.drop (Int.toNat x4) a0))))
def cY:=S347
def k347:CSpec:=⟨347,[(.sl .int),.int],(.sl .int),fun x=>cY x.1 x.2,false,[]⟩
def r347 {S:Seat} (h:Ok1 S 347 tf347):RtF S [] (Rt S k347):=okr h rfl fun x=>by kernel_rfl
def tc348:TCode:=.seq (rg [om 4 (cb false)]) (.seq (.seq (rg [om 5 (ci 0)]) (.loop ⟨[.slot 5 .int],[6,7,8,9,10,11,12,13,14,15,16,17],[],[]⟩ 0 (.seq (.seq (rg [om 6 5,om 7 0,oq 8 (.len false 7),oq 9 (.bin .int .lss 6 8)]) (.cond 9 (.skip) (.exit 0))) (.seq (.block 1 (.seq (rg [om 12 0,om 13 5,oq 14 (.ia 1 12 13),oq 15 (.load none 14),om 16 1,oq 17 (.bin .int .eql 15 16)]) (.cond 17 (.seq (rg [om 4 (cb true)]) (.ret)) (.skip)))) (rg [om 10 5,oq 11 (.bin .int .add 10 (ci 1)),om 5 11]))))) (.seq (rg [om 4 (cb false)]) (.ret))) 
def tf348:TFunc:=⟨2,18,[.tmp 4],false,tc348,[]⟩
def zgP (a0:LI) (a1:Int) (x1:Int):Option (LR Int Bool) :=
 br (decide (x1 < (a0.length:Int)))
 (bno (zo a0 x1) fun y2 =>
 br (decide (y2=a1))
 (qP (some true))
 (nxO (some (wi (x1+(1:Int))))))
 (dnO (some x1))
def S348 (a0:LI) (a1:Int):Option Bool :=
 lp (zgP a0 a1) (0:Int) fun x3 =>
 some false
def zkx:=S348
def k348:CSpec:=⟨348,[(.sl .int),.int],.bool,fun x=>zkx x.1 x.2,false,[]⟩
def r348 {S:Seat} (h:Ok1 S 348 tf348):RtF S [] (Rt S k348):=okr h rfl fun x=>by kernel_rfl
def tc321:TCode:=.seq (rg [oq 1 (.box 0),om 2 cn,om 3 (ci 0),om 4 (ci 0)]) (.seq (rg [oq 25 (.load (some 3) 1),oq 26 (.call false [] 95 [25]),om 24 26,oq 27 (.ext 24 0),oq 28 (.ext 24 1),om 5 27,om 6 28]) (.seq (.seq (rg [om 29 6,oq 30 (.bin .int .neq 29 (ci 0))]) (.cond 30 (.seq (rg [om 31 5,om 32 6,om 2 cn,om 3 31,om 4 32]) (.ret)) (.skip))) (.seq (rg [om 7 cn]) (.seq (.seq (rg [om 8 (ci 0)]) (.loop ⟨[.row 7 115 (.sl .int),.slot 8 .int],[9,10,11,12,13,14,15,16,33,34,35,36,37,38,39,40,41,42,43,44,45,46,47,48,49,50,51,52,53,54,55,56,57,58,59,62,63,64,65,66,67,68,69,70,71,72,73,74,75,76,77,78,79,80,81,82,84,85,86,87,88,89,90,91,92,93,94,95,96,97,98,99,100,101,102,103,104,105,106,107,108,109,110,111,112,113,114,115],[114],[]⟩ 0 (.seq (.seq (rg [om 33 8,oq 34 (.fa 2 1),oq 35 (.load none 34),oq 36 (.len false 35),oq 37 (.bin .int .lss 33 36)]) (.cond 37 (.skip) (.exit 0))) (.seq (.block 1 (.seq (rg [om 9 cn]) (.seq (.seq (rg [oq 40 (.fa 2 1),oq 41 (.load none 40),om 42 8,oq 43 (.ia 4 41 42),oq 44 (.fa 3 43),oq 45 (.load none 44),oq 46 (.bin .str .neq 45 (cs ⟨#[]⟩))]) (.condJ ⟨[.slot 9 (.sl .int)],[10,11,12,13,14,15,16,47,48,49,50,51,52,53,54,55,56,57,58,59,62,63,64,65,66,67,68,69,70,71,72,73,74,75,76,77,78,79,80,81,82,84,85,86,87,88,89,90,91,92,93,94,95,96,97,98,99,100,101,102,103,104,105,106,107,108,109,110,111],[],[]⟩ 46 (.seq (rg [oq 48 (.fa 2 1),oq 49 (.load none 48),om 50 8,oq 51 (.ia 4 49 50),oq 52 (.fa 3 51),oq 53 (.load none 52),oq 54 (.call true [] 247 [53]),om 47 54,oq 55 (.ext 47 0),oq 56 (.ext 47 1),oq 57 (.ext 47 2),om 10 55,om 11 56,om 12 57]) (.seq (.seq (rg [om 58 12,oq 59 (.bin .int .neq 58 (ci 0))]) (.cond 59 (.seq (rg [om 60 8,om 61 12,om 2 cn,om 3 60,om 4 61]) (.ret)) (.skip))) (.seq (rg [om 13 (ci 0)]) (.loop ⟨[.slot 9 (.sl .int),.slot 13 .int],[14,62,63,64,65,66,67,68,69,70,71,72,73,74,75,76,77,78,79,80,81,82,84,85,86],[],[]⟩ 2 (.seq (.seq (rg [om 62 13,om 63 10,oq 64 (.len false 63),oq 65 (.bin .int .lss 62 64)]) (.cond 65 (.skip) (.exit 2))) (.seq (.blockJ ⟨[.slot 9 (.sl .int)],[14,68,69,70,71,72,73,74,75,76,77,78,79,80,81,82,84,85,86],[],[]⟩ 3 (.seq (.seq (rg [om 68 10,om 69 13,oq 70 (.ia 5 68 69),oq 71 (.fa 0 70),oq 72 (.load none 71),oq 73 (.bin .int .neq 72 (ci 2))]) (.cond 73 (.exit 3) (.skip))) (.seq (.region [oq 74 (.load (some 3) 1),om 75 10,om 76 13,od 77 (.ia 5 75 76) [1,2],od 78 (.fa 2 77) [3],od 79 (.load none 78) [4],od 80 (.call false [] 96 [74,79]) [0,5],od 14 (.mov 80) [6,6,0,1,2,3,4,5,6]] [] true) (.seq (.seq (rg [om 81 14,oq 82 (.bin .int .lss 81 (ci 0))]) (.cond 82 (.seq (rg [om 83 8,om 2 cn,om 3 83,om 4 (ci 5)]) (.ret)) (.skip))) (rg [om 84 9,om 85 14,oq 86 (.call true [] 347 [84,85]),om 9 86]))))) (rg [om 66 13,oq 67 (.bin .int .add 66 (ci 1)),om 13 67]))))))) (.seq (rg [oq 87 (.load (some 3) 1),om 88 8,oq 89 (.call true [] 100 [87,88]),om 15 89]) (.seq (rg [om 16 (ci 0)]) (.loop ⟨[.slot 9 (.sl .int),.slot 16 .int],[90,91,92,93,94,95,96,97,98,99,100,101,102,103,104,105,106,107,108,109,110,111],[],[]⟩ 4 (.seq (.seq (rg [om 90 16,om 91 15,oq 92 (.len false 91),oq 93 (.bin .int .lss 90 92)]) (.cond 93 (.skip) (.exit 4))) (.seq (.block 5 (.seq (.region [oq 96 (.fa 2 1),od 97 (.load none 96) [0],om 98 15,om 99 16,od 100 (.ia 1 98 99) [2,3],od 101 (.load none 100) [4],od 102 (.ia 4 97 101) [1,5],od 103 (.fa 2 102) [6],od 104 (.load none 103) [7],od 105 (.bin .int .neq 104 (ci 0)) [8]] [] true) (.condJ ⟨[.slot 9 (.sl .int)],[106,107,108,109,110,111],[],[]⟩ 105 (rg [om 106 9,om 107 15,om 108 16,oq 109 (.ia 1 107 108),oq 110 (.load none 109),oq 111 (.call true [] 347 [106,110]),om 9 111]) (.skip)))) (rg [om 94 16,oq 95 (.bin .int .add 94 (ci 1)),om 16 95])))))))) (.region [om 112 7,om 113 9,oq 114 (.bslice true 1 [.slice none 0 0] 1 [(0,113)]),oq 115 (.app 1 112 114),om 7 115] [.int,.int,(.sl .int),(.sl .int)] false)))) (rg [om 38 8,oq 39 (.bin .int .add 38 (ci 1)),om 8 39]))))) (.seq (.seq (rg [om 17 (ci 0)]) (.loop ⟨[.slot 17 .int],[18,19,20,21,22,23,116,117,118,119,120,121,122,123,124,125,126,127,128,129,130,131,132,133,134,135,136,137,138,139,140,141,142,143,144,145,146,147,148,149,150,151,152,153,154,155,156,157,158,159,160,161,162,163,164,165,166,167,168,169,170,171,172,173,174],[],[]⟩ 6 (.seq (.seq (rg [om 116 17,om 117 7,oq 118 (.len false 117),oq 119 (.bin .int .lss 116 118)]) (.cond 119 (.skip) (.exit 6))) (.seq (.block 7 (.seq (rg [om 122 7,om 123 17,oq 124 (.ia 1 122 123),oq 125 (.load none 124),om 18 125]) (.seq (.seq (rg [om 19 (cb true)]) (.loop ⟨[.slot 18 (.sl .int),.slot 19 .bool],[20,21,22,126,127,128,129,130,131,132,133,134,135,136,137,138,139,140,141,142,143,144,145,146,147,148,149,150,151,152,153,154,155,156,157,158,159,160,161,162,163,164,165,166,167,168,169,170],[],[]⟩ 8 (.seq (.seq (rg [om 126 19]) (.cond 126 (.skip) (.exit 8))) (.block 9 (.seq (rg [om 19 (cb false)]) (.seq (rg [om 20 (ci 0)]) (.loop ⟨[.slot 18 (.sl .int),.slot 19 .bool,.slot 20 .int],[21,22,127,128,129,130,131,132,133,134,135,136,137,138,139,140,141,142,143,144,145,146,147,148,149,150,151,152,153,154,155,156,157,158,159,160,161,162,163,164,165,166,167,168,169,170],[],[]⟩ 10 (.seq (.seq (rg [om 127 20,om 128 18,oq 129 (.len false 128),oq 130 (.bin .int .lss 127 129)]) (.cond 130 (.skip) (.exit 10))) (.seq (.block 11 (.seq (rg [om 21 (ci 0)]) (.loop ⟨[.slot 18 (.sl .int),.slot 19 .bool,.slot 21 .int],[22,133,134,135,136,137,138,139,140,141,142,143,144,145,146,147,148,149,150,151,152,153,154,155,156,157,158,159,160,161,162,163,164,165,166,167,168,169,170],[],[]⟩ 12 (.seq (.seq (rg [om 133 21,om 134 7,om 135 18,om 136 20,oq 137 (.ia 1 135 136),oq 138 (.load none 137),oq 139 (.ia 1 134 138),oq 140 (.load none 139),oq 141 (.len false 140),oq 142 (.bin .int .lss 133 141)]) (.cond 142 (.skip) (.exit 12))) (.seq (.block 13 (.seq (rg [om 145 18,om 146 7,om 147 18,om 148 20,oq 149 (.ia 1 147 148),oq 150 (.load none 149),oq 151 (.ia 1 146 150),oq 152 (.load none 151),om 153 21,oq 154 (.ia 1 152 153),oq 155 (.load none 154),oq 156 (.call false [] 348 [145,155]),om 22 156]) (.seq (rg [om 157 22,oq 158 (.un .not 157)]) (.cond 158 (.seq (rg [om 159 18,om 160 7,om 161 18,om 162 20,oq 163 (.ia 1 161 162),oq 164 (.load none 163),oq 165 (.ia 1 160 164),oq 166 (.load none 165),om 167 21,oq 168 (.ia 1 166 167),oq 169 (.load none 168),oq 170 (.call true [] 347 [159,169]),om 18 170]) (.seq (rg [om 19 (cb true)]) (.exit 12))) (.skip))))) (rg [om 143 21,oq 144 (.bin .int .add 143 (ci 1)),om 21 144])))))) (rg [om 131 20,oq 132 (.bin .int .add 131 (ci 1)),om 20 132])))))))))) (.seq (rg [om 171 18,om 172 17,oq 173 (.call false [] 348 [171,172]),om 23 173]) (.seq (rg [om 174 23]) (.cond 174 (.seq (rg [om 175 17,om 2 cn,om 3 175,om 4 (ci 8)]) (.ret)) (.skip))))))) (rg [om 120 17,oq 121 (.bin .int .add 120 (ci 1)),om 17 121]))))) (.seq (rg [om 176 7,om 2 176,om 3 (ci (-1)),om 4 (ci 0)]) (.ret))))))) 
def tf321:TFunc:=⟨1,177,[.tmp 2,.tmp 3,.tmp 4],false,tc321,[]⟩
def zeP (a0:Dim) (x2:((List LI)×Int)) (y5:(LN×Int×Int)) (x6:(LI×Int)):Option (LR (LI×Int) (Sum LI (LR ((List LI)×Int) ((List LI)×Int×Int)))) :=
 br (decide (x6.2 < (y5.1.length:Int)))
 (jn (σ:=(List Int)) (α:=(LR ((List Int)×Int) (Sum (List Int) (LR ((List (List Int))×Int) ((List (List Int))×Int×Int))))) (bno (zo y5.1 x6.2) fun y7 =>
 br (decide (¬ (Node.op y7)=(2:Int)))
 (zq (some x6.1))
 (bno (zo y5.1 x6.2) fun y8 =>
 bno (F96 a0 (Node.name y8)) fun y9 =>
 br (decide (y9 < (0:Int)))
 (zft (qP (zft (qP (some (([]:List (List Int)),x2.2,(5:Int)))))))
 (bno (F347 x6.1 y9) fun dj =>
 zq (some dj)))) fun cI =>
 nxO (some (cI,wi (x6.2+(1:Int)))))
 (dnO (some (x6.1,x6.2)))
def zeO (a0:Dim) (cg:LI) (bD:(LI×Int)):Option (LR (LI×Int) (Sum LI (LR ((List LI)×Int) ((List LI)×Int×Int)))) :=
 br (decide (bD.2 < (cg.length:Int)))
 (bno (zo cg bD.2) fun dL =>
 bno (zo (Dim.members a0) dL) fun kA =>
 jn (σ:=(List Int)) (α:=(LR ((List Int)×Int) (Sum (List Int) (LR ((List (List Int))×Int) ((List (List Int))×Int×Int))))) (br (decide (¬ (Member.sign kA)=(0:Int)))
 (bno (zo cg bD.2) fun kz =>
 bno (F347 bD.1 kz) fun lS =>
 zq (some lS))
 (zq (some bD.1))) fun bf =>
 nxO (some (bf,wi (bD.2+(1:Int)))))
 (dnO (some (bD.1,bD.2)))
def zgU (a0:Dim) (x2:((List LI)×Int)):Option (LR ((List LI)×Int) ((List LI)×Int×Int)) :=
 br (decide (x2.2 < ((Dim.members a0).length:Int)))
 (bno (zo (Dim.members a0) x2.2) fun y3 =>
 jn (σ:=(List Int)) (α:=(LR ((List (List Int))×Int) ((List (List Int))×Int×Int))) (br (decide (¬ (Member.formula y3)=(⟨#[]⟩:ByteArray)))
 (bno (zo (Dim.members a0) x2.2) fun y4 =>
 bno (F247 (Member.formula y4)) fun y5 =>
 br (decide (¬ y5.2.2=(0:Int)))
 (zft (qP (some (([]:List (List Int)),x2.2,y5.2.2))))
 (lp (zeP F347 F96 a0 x2 y5) (([]:List Int),(0:Int)) fun bc =>
 zq (some bc.1)))
 (bno (F100 a0 x2.2) fun cg =>
 lp (zeO F347 a0 cg) (([]:List Int),(0:Int)) fun dN =>
 zq (some dN.1))) fun pE =>
 ck (decide (List.length x2.1+List.length ([pE]:List (List Int))<=zH)) <|
 nxO (some (x2.1++([pE]:List (List Int)),wi (x2.2+(1:Int)))))
 (dnO (some (x2.1,x2.2)))
def zeN (dc:((List LI)×Int)) (ba:(LI×Bool×Int)) (dM:(LI×Bool×Int)):Option (LR (LI×Bool×Int) (LR (LI×Bool×Int) (LR (LI×Bool) (LR Int ((List LI)×Int×Int))))) :=
 bno (zo dM.1 ba.2.2) fun ky =>
 ck (decide (0<=ky∧ky < (dc.1.length:Int))) <|
 bno ((dc.1)[(Int.toNat ky)]?) fun mG =>
 br (decide (dM.2.2 < (mG.length:Int)))
 (bno (zo dM.1 ba.2.2) fun mF =>
 ck (decide (0<=mF∧mF < (dc.1.length:Int))) <|
 bno ((dc.1)[(Int.toNat mF)]?) fun y31 =>
 bno (zo y31 dM.2.2) fun y32 =>
 bno (F348 dM.1 y32) fun gZ =>
 br (!gZ)
 (bno (zo dM.1 ba.2.2) fun mD =>
 ck (decide (0<=mD∧mD < (dc.1.length:Int))) <|
 bno ((dc.1)[(Int.toNat mD)]?) fun y35 =>
 bno (zo y35 dM.2.2) fun gY =>
 bno (F347 dM.1 gY) fun y37 =>
 dnO (some (y37,true,dM.2.2)))
 (nxO (some (dM.1,dM.2.1,wi (dM.2.2+(1:Int))))))
 (dnO (some (dM.1,dM.2.1,dM.2.2)))
def zgT (dc:((List LI)×Int)) (ba:(LI×Bool×Int)):Option (LR (LI×Bool×Int) (LR (LI×Bool) (LR Int ((List LI)×Int×Int)))) :=
 br (decide (ba.2.2 < (ba.1.length:Int)))
 (lp (zeN F347 F348 dc ba) (ba.1,ba.2.1,(0:Int)) fun lT =>
 nxO (some (lT.1,lT.2.1,wi (ba.2.2+(1:Int)))))
 (dnO (some (ba.1,ba.2.1,ba.2.2)))
def zcB (dc:((List LI)×Int)) (ig:(LI×Bool)):Option (LR (LI×Bool) (LR Int ((List LI)×Int×Int))) :=
 br ig.2
 (lp (zgT F347 F348 dc) (ig.1,false,(0:Int)) fun pC =>
 nxO (some (pC.1,pC.2.1)))
 (dnO (some (ig.1,ig.2)))
def zgS (dc:((List LI)×Int)) (gw:Int):Option (LR Int ((List LI)×Int×Int)) :=
 br (decide (gw < (dc.1.length:Int)))
 (ck (decide (0<=gw∧gw < (dc.1.length:Int))) <|
 bno ((dc.1)[(Int.toNat gw)]?) fun y24 =>
 lp (zcB F347 F348 dc) (y24,true) fun mJ =>
 bno (F348 mJ.1 gw) fun y41 =>
 br y41
 (qP (some (([]:List (List Int)),gw,(8:Int))))
 (nxO (some (wi (gw+(1:Int))))))
 (dnO (some gw))
def S321 (a0:Dim):Option ((List LI)×Int×Int) :=
 bno (F95 a0) fun y1 =>
 br (decide (¬ y1.2=(0:Int)))
 (some (([]:List (List Int)),y1.1,y1.2))
 (lp (zgU F100 F247 F347 F96 a0) (([]:List (List Int)),(0:Int)) fun dc =>
 lp (zgS F347 F348 dc) (0:Int) fun x42 =>
 some (dc.1,(-1:Int),(0:Int)))
def P321:=S321 P100 P247 cY zkx P95 P96
def k321:CSpec:=⟨321,[(.st .dim)],(.tp [(.sl (.sl .int)),.int,.int]),fun x=>P321 x,false,[]⟩
def r321 {S:Seat} (h:Ok1 S 321 tf321):RtF S [k100,k247,k347,k348,k95,k96] (Rt S k321):=okr h rfl fun x=>by kernel_rfl
def tc319:TCode:=.seq (rg [oq 1 (.box 0),om 2 (ci 0),om 3 (ci 0),om 4 (ci 0)]) (.seq (rg [oq 13 (.load (some 1) 1),oq 14 (.call false [] 94 [13]),om 12 14,oq 15 (.ext 12 0),oq 16 (.ext 12 1),oq 17 (.ext 12 2),om 5 15,om 6 16,om 7 17]) (.seq (.seq (rg [om 18 7,oq 19 (.bin .int .neq 18 (ci 0))]) (.cond 19 (.seq (rg [om 20 5,om 21 6,om 22 7,om 2 20,om 3 21,om 4 22]) (.ret)) (.skip))) (.seq (.seq (rg [om 8 (ci 0)]) (.loop ⟨[.slot 8 .int],[9,10,11,23,24,25,26,27,28,29,30,31,32,33,34,35,36,37,38,39,40,41],[],[]⟩ 0 (.seq (.seq (rg [om 23 8,oq 24 (.fa 0 1),oq 25 (.load none 24),oq 26 (.len false 25),oq 27 (.bin .int .lss 23 26)]) (.cond 27 (.skip) (.exit 0))) (.seq (.block 1 (.seq (rg [oq 31 (.fa 0 1),oq 32 (.load none 31),om 33 8,oq 34 (.ia 3 32 33),oq 35 (.load (some 3) 34),oq 36 (.call true [] 321 [35]),om 30 36,oq 37 (.ext 30 0),oq 38 (.ext 30 1),oq 39 (.ext 30 2),om 9 37,om 10 38,om 11 39]) (.seq (rg [om 40 11,oq 41 (.bin .int .neq 40 (ci 0))]) (.cond 41 (.seq (rg [om 42 8,om 43 10,om 44 11,om 2 42,om 3 43,om 4 44]) (.ret)) (.skip))))) (rg [om 28 8,oq 29 (.bin .int .add 28 (ci 1)),om 8 29]))))) (.seq (rg [om 2 (ci (-1)),om 3 (ci (-1)),om 4 (ci 0)]) (.ret))))) 
def tf319:TFunc:=⟨1,45,[.tmp 2,.tmp 3,.tmp 4],false,tc319,[]⟩
def zgW (a0:LD) (x2:Int):Option (LR Int (Int×Int×Int)) :=
 br (decide (x2 < (a0.length:Int)))
 (bno (zo a0 x2) fun y3 =>
 bno (F321 y3) fun y4 =>
 br (decide (¬ y4.2.2=(0:Int)))
 (qP (some (x2,y4.2.1,y4.2.2)))
 (nxO (some (wi (x2+(1:Int))))))
 (dnO (some x2))
def S319 (a0:LD):Option (Int×Int×Int) :=
 bno (F94 a0) fun y1 =>
 br (decide (¬ y1.2.2=(0:Int)))
 (some (y1.1,y1.2.1,y1.2.2))
 (lp (zgW F321 a0) (0:Int) fun x5 =>
 some ((-1:Int),(-1:Int),(0:Int)))
def P319:=S319 P321 P94
def k319:CSpec:=⟨319,[(.st .outl)],(.tp [.int,.int,.int]),fun x=>P319 x,false,[]⟩
def r319 {S:Seat} (h:Ok1 S 319 tf319):RtF S [k321,k94] (Rt S k319):=okr h rfl fun x=>by kernel_rfl
def tc324:TCode:=.seq (rg [oq 1 (.box 0),om 2 (ci 0)]) (.seq (rg [oq 7 (.load (some 1) 1),oq 8 (.call false [] 319 [7]),om 6 8,oq 9 (.ext 6 0),oq 10 (.ext 6 1),oq 11 (.ext 6 2),om 3 9,om 4 10,om 5 11]) (.seq (rg [om 12 5,om 2 12]) (.ret))) 
def tf324:TFunc:=⟨1,13,[.tmp 2],false,tc324,[]⟩
def S324 (a0:LD):Option Int :=
 bno (F319 a0) fun y1 =>
 some y1.2.2
def P324:=S324 P319
def k324:CSpec:=⟨324,[(.st .outl)],.int,fun x=>P324 x,false,[]⟩
def r324 {S:Seat} (h:Ok1 S 324 tf324):RtF S [k319] (Rt S k324):=okr h rfl fun x=>by kernel_rfl
def tc335:TCode:=.seq (rg [oq 2 (.box 0),om 4 (ci 0)]) (.seq (rg [oq 6 (.load (some 1) 2),oq 7 (.call false [] 324 [6]),om 5 7]) (.seq (.seq (rg [om 8 5,oq 9 (.bin .int .eql 8 (ci 0))]) (.condJ ⟨[.slot 5 .int],[10,11,12],[],[]⟩ 9 (rg [oq 10 (.load (some 1) 2),om 11 1,oq 12 (.call false [] 122 [10,11]),om 5 12]) (.skip))) (.seq (rg [om 13 5,om 4 13]) (.ret)))) 
def tf335:TFunc:=⟨2,14,[.tmp 4],false,tc335,[]⟩
def S335 (a0:LD) (a1:LY):Option Int :=
 bno (F324 a0) fun y1 =>
 jn (σ:=Int) (α:=Int) (br (decide (y1=(0:Int)))
 (bno (F122 a0 a1) fun y2 =>
 zq (some y2))
 (zq (some y1))) fun x3 =>
 some x3
def P335:=S335 P122 P324
def k335:CSpec:=⟨335,[(.st .outl),(.sl .entry)],.int,fun x=>P335 x.1 x.2,false,[]⟩
def r335 {S:Seat} (h:Ok1 S 335 tf335):RtF S [k122,k324] (Rt S k335):=okr h rfl fun x=>by kernel_rfl
end
end
section
def P100_eq {d:Dim} (hl:d.members.length<=1000) (i:Int):P100 d i=some (partsOf d.members i):=by
 simp only[P100,S100,zO];rw[mr (zhG d.members i) d.members.length (fun k acc hk ha => ?_) (fun acc=>by simp[zjp])]
 ·rfl
 ·have e:((k:Nat):Int) < ((d.members.length:Nat):Int):=by omega
  have hr:acc.length+1<=zH:=by unfold zH;omega
  simp only[zjp,e,decide_true,zg,zb,Aa hk,zk,zhG,Bb,zw hr,zt,qR];rw[zJ (by omega) (by omega)];by_cases h:(d.members[k]).parent=i<;>simp[h]
def P102_eq {d:Dim} (hl:d.members.length<=1000) {k:Nat} (hk:k < d.members.length):P102 d k=some (zap d.members k):=by have e:decide (((List.length (partsOf d.members k):Nat):Int)=0)=decide (partsOf d.members k=[]):=(by congr 1;rw[← Az];exact propext ⟨fun h=>by omega,fun h=>by omega⟩);simp only[P102,S102,zb,Aa hk,zk,P100_eq hl,zap,e];by_cases h:(d.members[k]).formula=⟨#[]⟩<;>simp[h]
def w2_loop {d:Dim} (h:Rooted d.members) {i:Int} (hi:0<=i):∀ (n k:Nat),k<=n->k < d.members.length->∀ w:Int, -1<=w->w<=1 ->
  jn (lpO (zaH d i) ((k:Int),w)) (fun x=>some (x.2,true))=some (match wl d.members i (path d.members k) with | some v=>(w * v,true) | none=>(0,false)):=by
 have neg:∀ (p w:Int),p < 0->jn (lpO (zaH d i) (p,w)) (fun x=>some (x.2,true))=some (0,false):=by
  intro p w hp;have:¬ p=i:=by omega
  rw[jc (a:=(0,false)) (by simp[zaH,this,hp])];rfl
 intro n
 induction n with
 | zero =>
  intro k hk hl w h1 h2;have hm:=Aa hl;have hu:=h.up _ _ hm;rw[zaj h hm,yU (by omega)];simp only[wl];by_cases dJ:(k:Int)=i
  ·rw[if_pos dJ,zD (y:=((k:Int),w)) (by simp[zaH,dJ])];simp
  ·rw[if_neg dJ];have kk:¬ ((k:Int) < 0):=by omega
   have hs:=h.sign _ _ hm;have hb:=zbd ⟨h1,h2⟩ hs;rw[z6 (y:=((d.members[k]).parent,w * (d.members[k]).sign))]
   ·rw[neg _ _ (by omega)];rfl
   ·simp only[zaH,dJ,kk,not_false_eq_true,decide_true,decide_false,zg,za,zb,hm,zk,qR];rw[zJ (by omega) (by omega)]
 | succ n ih =>
  intro k hk hl w h1 h2;have hm:=Aa hl;have hu:=h.up _ _ hm;rw[zaj h hm];simp only[wl];by_cases dJ:(k:Int)=i
  ·rw[if_pos dJ,zD (y:=((k:Int),w)) (by simp[zaH,dJ])];simp
  ·rw[if_neg dJ];have kk:¬ ((k:Int) < 0):=by omega
   have hs:=h.sign _ _ hm;have hb:=zbd ⟨h1,h2⟩ hs;have iq:sgn d.members k=(d.members[k]).sign:=by unfold sgn;rw[Am,hm]
   rw[z6 (y:=((d.members[k]).parent,w * (d.members[k]).sign))]
   ·by_cases hp:(d.members[k]).parent < 0
    ·rw[neg _ _ hp,yU hp];rfl
    ·obtain ⟨j,hj⟩:=Bx (by omega:0<=(d.members[k]).parent);rw[hj] at hu ⊢;rw[ih j (by omega) (by omega) _ hb.1 hb.2,iq];cases wl d.members i (path d.members j) with
     | none=>rfl
     | some v=>simp[Int.mul_assoc]
   ·simp only[zaH,dJ,kk,not_false_eq_true,decide_true,decide_false,zg,za,zb,hm,zk,qR];rw[zJ (by omega) (by omega)]
def P103_eq {d:Dim} (h:Rooted d.members) {i:Int} (hi:0<=i) {k:Nat} (hk:k < d.members.length):P103 d i k=some (wOf d.members i k):=by simp only[P103,S103,zO];rw[w2_loop h hi k k (AG _) hk 1 (by omega) (by omega)];simp only[Int.one_mul];rfl
end
section
def pa {l:List Int} {n:Int}:(cd l n).length<=l.length+1∧(n ∉ l->(cd l n).length=l.length+1):=by
 obtain ⟨w1,w2,w3⟩:=zjD (fun a=>decide (a < n)) l;unfold cd;generalize (l.takeWhile fun a=>decide (a < n)).length=k at *;simp only;by_cases hk:l[k]? = some n
 ·rw[if_pos hk];exact ⟨by omega,fun h=>absurd (Ad hk) h⟩
 ·rw[if_neg hk];simp only[AQ,Bm,Ce,Bb];omega
def zju (l:List Int) (n:Int) (h:l.length<=1000000):cY l n=some (cd l n):=by
 obtain ⟨t1,t2,t3⟩:=zjD (fun a=>decide (a < n)) l;have hi:cd l n=if l[(l.takeWhile fun a=>decide (a < n)).length]? = some n then l else l.take (l.takeWhile fun a=>decide (a < n)).length++[n]++l.drop (l.takeWhile fun a=>decide (a < n)).length:=rfl;rw[hi];generalize (l.takeWhile fun a=>decide (a < n)).length=k at *;have hs:=zU (B:=zeM l n) (fun i=>(i:Int)) k (fun i hi=>by
  have hx:=Aa (show i < l.length by omega);have hp:l[i] < n:=of_decide_eq_true (t1 _ (Ad (i:=i) (by rw[List.getElem?_take,if_pos hi,hx])));have e4:wi ((i:Int)+1)=((i+1:Nat):Int):=by rw[zJ (by omega) (by omega)];omega
  simp only[zeM];rw[zE,if_pos (by omega)];simp only[zb,hx,zk,zt,zN];rw[zE,if_pos hp,e4]
  rfl)
 have dZ:lpO (zeM l n) (0:Int)=some (.inl (k:Int)):=by
  rw[show (0:Int)=((0:Nat):Int) from rfl,hs];refine zD ?_;simp only[zeM];by_cases hk:k < l.length
  ·have hx:=Aa hk;have hp:¬ l[k] < n:=of_decide_eq_false (t2 _ hx);rw[zE,if_pos (by omega)];simp only[zb,hx,zk,zt,zN];rw[zE,if_neg hp];rfl
  ·rw[zE,if_neg (by omega)];rfl
 simp only[cY,S347,zO,dZ,zN]
 have tail:∀ (hk:k<=l.length),(ck (decide (0<=(0:Int)∧(0:Int)<=(k:Int)∧(k:Int)<=((List.length l:Nat):Int))) <|
   ck (decide (List.length (List.take (Int.toNat (k:Int) - Int.toNat (0:Int)) (List.drop (Int.toNat (0:Int)) l))<=zH)) <|
   ck (decide (List.length (List.take (Int.toNat (k:Int) - Int.toNat (0:Int)) (List.drop (Int.toNat (0:Int)) l))+List.length ([n]:List Int)<=zH)) <|
   ck (decide (0<=(k:Int)∧(k:Int)<=((List.length l:Nat):Int)∧((List.length l:Nat):Int)<=((List.length l:Nat):Int))) <|
   ck (decide (List.length ((List.take (Int.toNat (k:Int) - Int.toNat (0:Int)) (List.drop (Int.toNat (0:Int)) l))++([n]:List Int))+List.length (List.take (Int.toNat ((List.length l:Nat):Int) - Int.toNat (k:Int)) (List.drop (Int.toNat (k:Int)) l))<=zH)) <|
   some (((List.take (Int.toNat (k:Int) - Int.toNat (0:Int)) (List.drop (Int.toNat (0:Int)) l))++([n]:List Int))++(List.take (Int.toNat ((List.length l:Nat):Int) - Int.toNat (k:Int)) (List.drop (Int.toNat (k:Int)) l))))=some (l.take k++[n]++l.drop k):=by
  intro hk;have e0:Int.toNat (0:Int)=0:=rfl;rw[e0,Am,Am,List.drop_zero,CA,Bf (show (l.drop k).length<=l.length - k by rw[Ce];exact AG _)];rw[zw (by omega),zw (by rw[Bm];unfold zH;omega),zw (by rw[Bm,Bb];unfold zH;omega),zw (by omega),zw (by rw[AQ,Bm,Bb,Ce];unfold zH;omega)]
 rw[tail t3];by_cases hk:k < l.length
 ·have hx:=Aa hk;rw[zE,if_pos (by omega)];simp only[zb,hx,zk,zt,zN];rw[zE];by_cases e:l[k]=n
  ·rw[if_pos e,if_pos (by rw[e])]
  ·rw[if_neg e,if_neg (fun h=>e (Option.some.inj h))]
 ·rw[zE,if_neg (by omega)];simp only[zt,zN,za];rw[if_neg (by rw[AR (by omega)];simp)]
def P348_eq (l:List Int) (n:Int) (h:l.length<=9223372036854775807):zkx l n=some (cu l n):=by
 simp only[zkx,S348];have h1:=w8 (B:=zgP l n) (fun y=>decide (y=n)) l true false (fun i y hy=>by
  have hi:=(Ac.1 hy).1;simp only[zgP];rw[zE,if_pos (by omega)];simp only[zb,hy,zk];rw[zJ (by omega) (by omega),zE];by_cases c:y=n<;>simp[c]) (by
  simp only[zgP];rw[zE,if_neg (by omega)]
  rfl)
 rw[h1];unfold cu;cases (l.any fun y=>decide (y=n))<;>rfl
section
variable {n:List (List Int)}
structure Bel (n:List (List Int)) (i:Nat) (A:List Int):Prop where
 up:A.Pairwise (· < ·)
 rng:∀ x∈A,0<=x∧x < n.length
 re:∀ x∈A,Reach n i x.toNat
 one:∀ x∈n.getD i [],x∈A
def zgx {i:Nat} {A:List Int} (h:Bel n i A):A.length<=n.length:=by
 have h1:(A.map Int.toNat).Nodup:=(by rw[List.Nodup,List.pairwise_map];refine List.Pairwise.imp_of_mem ?_ h.up;intro a b ha hb oC;have:=h.rng a ha;have:=h.rng b hb;omega);have:=zfp _ (List.range n.length) h1 (fun x hx=>by
  obtain ⟨y,hy,rfl⟩:=Aj.1 hx;have:=h.rng y hy;exact Bj.2 (by omega))
 rwa [Ao,Bw] at this
def bel_ins (hr:Rng n) {i:Nat} {A:List Int} (h:Bel n i A) {x y:Int} (hx:x∈A) (hy:y∈n.getD x.toNat []):Bel n i (cd A y):=by
 obtain ⟨k1,k2⟩:=insI_ok (n:=y) h.up;have hry:=hr x.toNat y hy;refine ⟨k1,fun z hz => ?_,fun z hz => ?_,fun z hz=>(k2 z).2 (.inl (h.one z hz))⟩
 ·rcases (k2 z).1 hz with hz | rfl
  ·exact h.rng z hz
  ·exact hry
 ·rcases (k2 z).1 hz with hz | rfl
  ·exact h.re z hz
  ·exact (h.re x hx).snoc (Aj.2 ⟨_,hy,rfl⟩)
def inner4 (hr:Rng n) (hw:∀ k,(n.getD k []).length<=1000) (hn:n.length<=1000) {z:Int} {i:Nat} {A:List Int} (h:Bel n i A) (ag:Bool) {k:Nat} (hk:k < A.length) :
  ∃ r,lpO (zeN cY zkx (n,z) (A,ag,(k:Int))) (A,ag,(0:Int))=some r∧∃ j,(r=.inl (A,ag,j)∧∀ y∈n.getD (A[k]).toNat [],y∈A)∨∃ y,r=.inl (cd A y,true,j)∧y∈n.getD (A[k]).toNat []∧y ∉ A:=by
 have dV:=h.rng _ (Ay hk);have hx:=Aa hk;have ae:(A[k]).toNat < n.length:=by omega
 have hg:n[(A[k]).toNat]? = some (n.getD (A[k]).toNat []):=by rw[Aw,Aa ae];rfl
 have hwk:=hw (A[k]).toNat;have rq:=zgx h;generalize cp:n.getD (A[k]).toNat []=row at *
 have:=zdr (B:=zeN cY zkx (n,z) (A,ag,(k:Int))) (fun x=>x.1=A∧x.2.1=ag∧∃ j:Nat,x.2.2=j∧j<=row.length∧∀ y∈row.take j,y∈A) (fun x=>row.length - x.2.2.toNat)
  (fun r=>∃ j,(r=.inl (A,ag,j)∧∀ y∈row,y∈A)∨∃ y,r=.inl (cd A y,true,j)∧y∈row∧y ∉ A) (fun x hI=>by
   obtain ⟨x1,x2,x3⟩:=x;obtain ⟨kt,mb,j,l6,hj,aH⟩:=hI;simp only at kt mb l6 aH;subst kt mb l6;simp only
   have hB:zeN cY zkx (n,z) (x1,x2,(k:Int)) (x1,x2,(j:Int))=(match row[j]? with
     | some y=>if cu x1 y=true then some (.nx (x1,x2,((j+1:Nat):Int))) else some (.dn (cd x1 y,true,(j:Int)))
     | none=>some (.dn (x1,x2,(j:Int)))):=by
    simp only[zeN,zb,hx,zk];rw[zw ⟨dV.1,dV.2⟩,hg];simp only[zk];by_cases c:j < row.length
    ·have hy:=Aa c;rw[zE,if_pos (by omega),zw ⟨dV.1,dV.2⟩,hy];simp only[zk,P348_eq x1 _ (show x1.length<=9223372036854775807 by omega),zju x1 _ (show x1.length<=1000000 by omega)];rw[zw ⟨dV.1,dV.2⟩];have e4:wi ((j:Int)+1)=((j+1:Nat):Int):=by rw[zJ (by omega) (by omega)];omega
     rw[e4];cases cu x1 row[j]<;>rfl
    ·rw[zE,if_neg (by omega),AR (by omega)];rfl
   rw[hB];cases hy:row[j]? with
   | none =>simp only;have:=List.getElem?_eq_none_iff.1 hy;exact ⟨_,.inl ⟨rfl,fun y hy=>aH y (by rw[Bf this];exact hy)⟩⟩
   | some y =>
    have cM:=(Ac.1 hy).1;by_cases c:cu x1 y=true
    ·simp only[if_pos c];refine ⟨⟨trivial,trivial,j+1,rfl,by omega,fun y' cN => ?_⟩,by rw[Am,Am];omega⟩;rw[A6,hy] at cN;rcases Ah.1 cN with cN | cN
     ·exact aH y' cN
     ·simp at cN;subst cN;exact zbT.1 c
    ·simp only[if_neg c];exact ⟨_,.inr ⟨y,rfl,Ad hy,fun h=>c (zbT.2 h)⟩⟩) (A,ag,(0:Int)) ⟨rfl,rfl,0,rfl,by omega,by simp⟩
 exact this
def inner5 (hr:Rng n) (hw:∀ k,(n.getD k []).length<=1000) (hn:n.length<=1000) {z:Int} {i:Nat} {A:List Int} (h:Bel n i A) :
  ∃ r,lpO (zgT cY zkx (n,z)) (A,false,(0:Int))=some r∧∃ A' ag j,r=.inl (A',ag,j)∧Bel n i A'∧(ag=false->∀ x∈A',∀ y∈n.getD x.toNat [],y∈A')∧(ag=true->A.length < A'.length)∧A.length<=A'.length:=by
 refine zdr (B:=zgT cY zkx (n,z)) (fun x=>Bel n i x.1∧(∃ k:Nat,x.2.2=k∧k<=x.1.length∧(x.2.1=false->∀ c∈x.1.take k,∀ y∈n.getD c.toNat [],y∈x.1))∧(x.2.1=true->A.length < x.1.length)∧A.length<=x.1.length) (fun x=>n.length - x.2.2.toNat)
  (fun r=>∃ A' ag j,r=.inl (A',ag,j)∧Bel n i A'∧(ag=false->∀ x∈A',∀ y∈n.getD x.toNat [],y∈A')∧(ag=true->A.length < A'.length)∧A.length<=A'.length) (fun x hI => ?_) (A,false,(0:Int)) ⟨h,⟨0,rfl,by omega,by simp⟩,by simp,AG _⟩
 obtain ⟨B,ag,k'⟩:=x;obtain ⟨hB,⟨k,ay,hk,bk⟩,gl,km⟩:=hI;simp only at hB ay hk bk gl km;subst ay;have lC:=zgx hB;simp only[zgT];by_cases c:k < B.length
 ·obtain ⟨r,e1,j,e2⟩:=inner4 hr hw hn (z:=z) hB ag c;have e4:wi ((k:Int)+1)=((k+1:Nat):Int):=by rw[zJ (by omega) (by omega)];omega
  rw[zE,if_pos (by omega),zO,e1];rcases e2 with ⟨rfl,e3⟩ | ⟨y,rfl,e3,e5⟩
  ·simp only[zN,qR,e4];refine ⟨⟨hB,⟨k+1,rfl,by omega,fun oB x hx y hy => ?_⟩,gl,km⟩,by rw[Am,Am];omega⟩;rw[A6,Aa c] at hx;rcases Ah.1 hx with hx | hx
   ·exact bk oB x hx y hy
   ·simp at hx;subst hx;exact e3 y hy
  ·simp only[zN,qR,e4];have hl:=(pa (l:=B) (n:=y)).2 e5;exact ⟨⟨bel_ins hr hB (Ay c) e3,⟨k+1,rfl,by omega,by simp⟩,fun _=>by omega,by omega⟩,by rw[Am,Am];omega⟩
 ·rw[zE,if_neg (by omega)];simp only[zbW];refine ⟨B,ag,_,rfl,hB,fun oB x hx=>bk oB x (by rw[Bf (by omega)];exact hx),gl,km⟩
def inner6 (hr:Rng n) (hw:∀ k,(n.getD k []).length<=1000) (hn:n.length<=1000) {z:Int} {i:Nat} {A:List Int} (h:Bel n i A) :
  ∃ r,lpO (zcB cY zkx (n,z)) (A,true)=some r∧∃ A',r=.inl (A',false)∧Bel n i A'∧∀ x∈A',∀ y∈n.getD x.toNat [],y∈A':=by
 refine zdr (B:=zcB cY zkx (n,z)) (fun x=>Bel n i x.1∧(x.2=false->∀ c∈x.1,∀ y∈n.getD c.toNat [],y∈x.1)) (fun x=>2 * (n.length - x.1.length)+(if x.2=true then 1 else 0))
  (fun r=>∃ A',r=.inl (A',false)∧Bel n i A'∧∀ x∈A',∀ y∈n.getD x.toNat [],y∈A') (fun x hI => ?_) (A,true) ⟨h,by simp⟩
 obtain ⟨B,ag⟩:=x;obtain ⟨hB,bk⟩:=hI;simp only at hB bk;cases ag with
 | false =>simp only[zcB,za,zbW];exact ⟨B,rfl,hB,bk rfl⟩
 | true =>
  obtain ⟨r,e1,A',ag',j,rfl,e3,e4,e5,e6⟩:=inner5 hr hw hn (z:=z) hB;simp only[zcB,zg,zO];rw[e1];simp only[zN,qR];have hl:=zgx e3;refine ⟨⟨e3,e4⟩, ?_⟩;cases ag' with
  | false=>simp only[Ap,if_false,if_true];omega
  | true =>have:=e5 rfl;simp only[if_true];omega
def ring_doc (hr:Rng n) (hw:∀ k,(n.getD k []).length<=1000) (hn:n.length<=1000) {z:Int} {i:Nat} (hup:(n.getD i []).Pairwise (· < ·)) :
  ∃ A',lpO (zcB cY zkx (n,z)) (n.getD i [],true)=some (.inl (A',false))∧zkx A' (i:Int)=some (decide (eW n i=some true)):=by
 obtain ⟨r,e1,A',rfl,e3,e4⟩:=inner6 hr hw hn (z:=z) (i:=i) (A:=n.getD i []) ⟨hup,hr i,fun x hx=>.one (Aj.2 ⟨x,hx,rfl⟩),fun x hx=>hx⟩;refine ⟨A',e1, ?_⟩;have hl:=zgx e3;rw[P348_eq A' _ (by omega)];congr 1;have:cu A' (i:Int)=true↔eW n i=some true:=by
  rw[zbT,selfN_iff hr];constructor
  ·intro h;have:=e3.re _ h
   rwa [Am] at this
  ·intro h;have key:=zcP (S:=fun j=>((j:Nat):Int)∈A') (n:=n) (fun j hj k hk=>by
    obtain ⟨x,hx,rfl⟩:=Aj.1 hk;have h0:=(hr j x hx).1;rw[show ((x.toNat:Nat):Int)=x by omega];exact e4 _ hj x (by rw[Am];exact hx)) h
   exact key fun k hk=>(by obtain ⟨x,hx,rfl⟩:=Aj.1 hk;have h0:=(hr i x hx).1;rw[show ((x.toNat:Nat):Int)=x by omega];exact e3.one x hx)
 cases hb:cu A' (i:Int) with
 | true=>rw[decide_eq_true (this.1 hb)]
 | false=>rw[decide_eq_false fun h=>by rw[this.2 h] at hb;cases hb]
end
def zge:∀ (l acc:List Int),(l.foldl cd acc).length<=acc.length+l.length
 | [],acc=>by simp
 | a :: r,acc=>by
  have h1:=zge r (cd acc a);have h2:=(pa (l:=acc) (n:=a)).1;simp only[Bv,Ax];omega
section
variable {d:Dim}
def zgc {l:List Int}:cu (cB l) (-1)=true↔(-1:Int)∈l:=by rw[zbT];exact (zfR l).2 (-1)
def refG {γ:Type} (d:Dim) (l:List Node) (e:γ) (j:Nat):Option γ:=match l[j]? with
 | some x=>if x.op=2∧qy d.members x.name < 0 then some e else none
 | none=>none
def refG_find {γ:Type} (l:List Node) (e:γ):(List.range l.length).findSome? (refG d l e)=if cu (cB ((bO l).map (qy d.members))) (-1)=true then some e else none:=by
 cases hf:(List.range l.length).findSome? (refG d l e) with
 | some r =>
  obtain ⟨j,_,hj⟩:=AM hf;unfold refG at hj;split at hj
  ·rename_i x hx;split at hj
   ·rename_i c;have hm:cu (cB ((bO l).map (qy d.members))) (-1)=true:=(by rw[zgc];refine Aj.2 ⟨x.name,Aj.2 ⟨x,BC.2 ⟨Ad hx,by simpa using c.1⟩,rfl⟩, ?_⟩;have:=zcH d.members x.name;omega);rw[if_pos hm,hj]
   ·cases hj
  ·cases hj
 | none =>have bp:=Bq.1 hf;have hm:¬ cu (cB ((bO l).map (qy d.members))) (-1)=true:=(by rw[zgc];intro hm;obtain ⟨s,hs,hw⟩:=Aj.1 hm;obtain ⟨x,hx,rfl⟩:=Aj.1 hs;obtain ⟨aF,cO⟩:=BC.1 hx;obtain ⟨j,hj⟩:=List.getElem?_of_mem aF;have:=bp j (Bj.2 (Ac.1 hj).1);unfold refG at this;rw[hj] at this;simp only at this;rw[if_pos ⟨by simpa using cO,by omega⟩] at this;cases this);rw[if_neg hm]
def refs_doc (hl:d.members.length<=1000) {l:List Node} (oN:l.length<=1000) (x2:List (List Int)×Int) (y5:List Node×Int×Int) (hy:y5.1=l) :
  lpO (zeP cY P96 d x2 y5) (([]:List Int),(0:Int))=some (if cu (cB ((bO l).map (qy d.members))) (-1)=true then .inr (.inr (.fin (([]:List (List Int)),x2.2,(5:Int)))) else .inl (cB ((bO l).map (qy d.members)),(l.length:Int))):=by
 have hs:=js (B:=zeP cY P96 d x2 y5) (fun j=>(((bO (l.take j)).map (qy d.members)).foldl cd [],(j:Int))) l.length
  (refG d l (Sum.inr (LR.fin (([]:List (List Int)),x2.2,(5:Int)))))
  (d:=(cB ((bO l).map (qy d.members)),(l.length:Int))) (fun j hj _=>by
   have hx:=Aa hj;have e4:wi ((j:Int)+1)=((j+1:Nat):Int):=by rw[zJ (by omega) (by omega)];omega
   have hb:(((bO (l.take j)).map (qy d.members)).foldl cd []).length<=1000:=(by refine AL (zge _ _) ?_;have:=zdn (l.take j);rw[Bm] at this;rw[Ao];simp only[Bu];omega);unfold refG;simp only[zeP,hy];rw[zE,if_pos (by omega),hx];simp only[zb,hx,zk];rw[pt hx,zE];by_cases c:l[j].op=2
   ·rw[if_neg (fun h=>h c),if_pos c,P96_eq d _ (by omega)];simp only[zk];rw[zE];by_cases c2:qy d.members l[j].name < 0
    ·rw[if_pos c2,if_pos ⟨c,c2⟩];rfl
    ·rw[if_neg c2,if_neg (fun h=>c2 h.2),zju _ _ (by omega)];simp only[zk,zt,zN,qR,e4,A7,C9];rfl
   ·rw[if_pos c,if_neg c,if_neg (fun h=>c h.1)];simp only[zt,zN,qR,e4,Bg]) (fun _=>by
   simp only[zeP,hy];rw[zE,if_neg (by omega),BI,zhO]
   rfl)
 have e0:(([]:List Int),(0:Int))=(((bO (l.take 0)).map (qy d.members)).foldl cd [],((0:Nat):Int)):=rfl;rw[e0,hs,refG_find];by_cases c:cu (cB ((bO l).map (qy d.members))) (-1)=true
 ·rw[if_pos c,if_pos c]
 ·rw[if_neg c,if_neg c]
def parts_doc (hl:d.members.length<=1000) (ps:List Int) (hp:∀ x∈ps,∃ k:Nat,x=k∧k < d.members.length) (hn:ps.length<=1000) :
  lpO (zeO cY d ps) (([]:List Int),(0:Int))=some (.inl (cB (ps.filter (fun k=>decide (¬ sgn d.members k=0))),(ps.length:Int))):=by
 have hs:=zU (B:=zeO cY d ps) (fun j=>(((ps.take j).filter (fun k=>decide (¬ sgn d.members k=0))).foldl cd [],(j:Int))) ps.length (fun j hj=>by
   have hx:=Aa hj;obtain ⟨k,hk,dV⟩:=hp _ (Ay hj);have e4:wi ((j:Int)+1)=((j+1:Nat):Int):=by rw[zJ (by omega) (by omega)];omega
   have hb:(((ps.take j).filter (fun k=>decide (¬ sgn d.members k=0))).foldl cd []).length<=1000:=(by refine AL (zge _ _) ?_;have:=Bo (fun k=>decide (¬ sgn d.members k=0)) (ps.take j);rw[Bm] at this;simp only[Bu];omega);have hg:=Aa dV;have iq:sgn d.members ps[j]=(d.members[k]).sign:=by unfold sgn;rw[hk,Am,hg]
   have nj:ps.take (j+1)=ps.take j++[ps[j]]:=by rw[A6,hx];rfl
   simp only[zeO];rw[zE,if_pos (by omega)];simp only[zb,hx,zk];rw[hk,zb,hg];simp only[zk];rw[zE,nj,B8];by_cases c:(d.members[k]).sign=0
   ·rw[if_neg (fun h=>h c)];simp only[zt,zN,qR,e4];rw[show List.filter (fun k=>decide (¬ sgn d.members k=0)) [ps[j]]=[] by rw[List.filter_cons_of_neg (by rw[iq,c];decide)];rfl,Bg]
   ·rw[if_pos c,zju _ _ (by omega)];simp only[zk,zt,zN,qR,e4];rw[show List.filter (fun k=>decide (¬ sgn d.members k=0)) [ps[j]]=[ps[j]] by rw[List.filter_cons_of_pos (by rw[iq];exact decide_eq_true c)];rfl,C9,hk]
    rfl)
 have e0:(([]:List Int),(0:Int))=(((ps.take 0).filter (fun k=>decide (¬ sgn d.members k=0))).foldl cd [],((0:Nat):Int)):=rfl;rw[e0,hs,BI,zhO];refine zD ?_;simp only[zeO];rw[zE,if_neg (by omega)];rfl
def allN_up (d:Dim) (i:Nat):((zde d).getD i []).Pairwise (· < ·):=by
 unfold zde;simp only[Aw,Au];by_cases hi:i < d.members.length
 ·rw[Cz hi];exact (zfR _).1
 ·rw[AR (by rw[Bw];omega)];exact List.Pairwise.nil
def P321_eq (d:Dim):P321 d=some (if (jS d).2=0 then zde d else [],(jS d).1,(jS d).2):=by
 simp only[P321,S321,P95_eq,zk];rw[zE];by_cases h0:(zT d).2=0
 ·have ok:=zka.1 h0;obtain ⟨fy,hl⟩:=ok.len;rw[if_neg (fun h=>h h0),show jS d=zhg d from if_neg (fun h=>h h0)];unfold zhg;have L1:=js (B:=zgU P100 P247 cY P96 d) (fun i=>((List.range i).map (yw d),(i:Int))) d.members.length (fun i=>((cw d i).map fun e=>((i:Int),e)).map fun r=>(([]:List (List Int)),r.1,r.2)) (d:=(zde d,(d.members.length:Int))) (fun i hi hg=>by
   have hx:=Aa hi;have e4:wi ((i:Int)+1)=((i+1:Nat):Int):=by rw[zJ (by omega) (by omega)];omega
   have aP:(List.length ((List.range i).map (yw d))+1<=zH):=by rw[Ao,Bw];unfold zH;omega
   simp only[zgU];rw[zE,if_pos (by omega)];simp only[zb,hx,zk];rw[zE];by_cases c:(d.members[i]).formula=⟨#[]⟩
   ·rw[if_neg (fun h=>h c),P100_eq (by omega)];have eD:yw d i=cB (cntP2 d i):=by unfold yw rawN;rw[hx];simp only;rw[if_pos c]
    have hm:cw d i=none:=(by unfold cw;rw[hx];simp only;rw[if_neg (fun h=>h.1 c),if_neg];rw[eD,zgc];intro h;obtain ⟨k,e,_⟩:=zdp (BC.1 h).1;omega);simp only[zk];rw[zO,parts_doc (by omega) _ (fun x hx=>zdp hx) (AL (zbS _ _) (by omega)),hm];simp only[zN,zt,BA];rw[show cB (List.filter (fun k=>decide (¬ sgn d.members k=0)) (partsOf d.members i))=yw d i from eD.symm,zw (by simp only[Bb];exact aP),e4,BZ,A7];rfl
   ·rw[if_pos c,P247_eq];simp only[zk];rw[zE];by_cases c2:(rdT (d.members[i]).formula).2.2=0
    ·have eD:yw d i=cB ((bO (rdT (d.members[i]).formula).1).map (qy d.members)):=by unfold yw rawN;rw[hx];simp only;rw[if_neg c]
     have hm:cw d i=if cu (yw d i) (-1)=true then some 5 else none:=by unfold cw;rw[hx];simp only;rw[if_neg (fun h=>h.2 c2)]
     rw[if_neg (fun h=>h c2),zO,refs_doc (by omega) (AL (ziE _) (by omega)) _ _ rfl,hm,← eD];by_cases c3:cu (yw d i) (-1)=true
     ·rw[if_pos c3,if_pos c3];rfl
     ·rw[if_neg c3,if_neg c3];simp only[zN,zt,BA];rw[zw (by simp only[Bb];exact aP),e4,BZ,A7];rfl
    ·have hm:cw d i=some (rdT (d.members[i]).formula).2.2:=by unfold cw;rw[hx];simp only;rw[if_pos ⟨c,c2⟩]
     rw[if_pos c2,hm]
     rfl) (fun _=>by
   simp only[zgU];rw[zE,if_neg (by omega)]
   rfl)
  have e0:(([]:List (List Int)),(0:Int))=((List.range 0).map (yw d),((0:Nat):Int)):=rfl;rw[zO,e0,L1,qm];cases hs:(List.range d.members.length).findSome? (fun i=>(cw d i).map fun e=>((i:Int),e)) with
  | some r =>have hr:r.2≠0:=(by obtain ⟨i,_,hi⟩:=AM hs;obtain ⟨e,he,rfl⟩:=Ag.1 hi;exact memF_ne he);simp only[AH,jn_r,if_neg hr]
  | none =>
   have bp:∀ i,i < d.members.length->cw d i=none:=fun i hi=>(by have:=Bq.1 hs i (Bj.2 hi);simpa using this);have dQ:=zkm bp;simp only[BA,zN];have L2:=js (B:=zgS cY zkx (zde d,(d.members.length:Int))) (fun i=>(i:Int)) d.members.length (fun i=>((zfT d i).map fun e=>((i:Int),e)).map fun r=>(([]:List (List Int)),r.1,r.2)) (d:=((d.members.length:Nat):Int)) (fun i hi hg=>by
    have e4:wi ((i:Int)+1)=((i+1:Nat):Int):=by rw[zJ (by omega) (by omega)];omega
    have gO:i < (zde d).length:=by rw[zgC];exact hi
    obtain ⟨A',e1,e2⟩:=ring_doc dQ (allN_w hl) (by rw[zgC];omega) (z:=(d.members.length:Int)) (allN_up d i);have lg:(zde d)[i]? = some ((zde d).getD i []):=by rw[Aw,Aa gO];rfl
    simp only[zgS];rw[zE,if_pos (by omega),zw ⟨by omega,by omega⟩,Am,lg];simp only[zk];rw[zO,e1];simp only[zN];rw[e2];simp only[zk];unfold zfT;rw[zE];by_cases c:eW (zde d) i=some true
    ·rw[if_pos c,if_pos c];rfl
    ·rw[if_neg c,if_neg c];simp only[qR,e4,BA]) (fun _=>by
    simp only[zgS];rw[zE,if_neg (by rw[zgC];omega)]
    rfl)
   rw[zO,show (0:Int)=((0:Nat):Int) from rfl,L2,qm];cases ez:(List.range d.members.length).findSome? (fun i=>(zfT d i).map fun e=>((i:Int),e)) with
   | some r =>
    have hr:r.2≠0:=by
     obtain ⟨i,_,hi⟩:=AM ez;obtain ⟨e,he,rfl⟩:=Ag.1 hi;unfold zfT at he;split at he
     ·cases he;show (8:Int)≠0;decide
     ·cases he
    simp only[AH,jn_r];rw[if_neg (show ¬ r.2=((0:Nat):Int) from hr)]
   | none=>rfl
 ·rw[if_pos h0,show jS d=zT d from if_pos h0,if_neg h0]
end
end
section
section
variable {n:List (List Int)} (hr:Rng n) (hn:n.length<=100000) (hw:∀ i,(n.getD i []).length<=100000)
include hr hn hw
end
def ziD (o:List Dim) (i:Nat):Option (Int×Int×Int):=match o[i]? with
 | some d=>if ¬ (jS d).2=0 then some ((i:Int),(jS d).1,(jS d).2) else none
 | none=>none
def zlh (o:List Dim):Int×Int×Int:=if ¬ (qQ o).2.2=0 then qQ o else match (List.range o.length).findSome? (ziD o) with
 | some r=>r
 | none=>(-1, -1,0)
def P319_eq (o:List Dim):P319 o=some (zlh o):=by
 simp only[P319,S319,P94_eq,zk];rw[zE];unfold zlh;by_cases h0:(qQ o).2.2=0
 ·obtain ok:=zbD.1 h0;have hl:=ok.len;rw[if_neg (fun h=>h h0),if_neg (fun h=>h h0)];have L:=jl (B:=zgW P321 o) o.length (ziD o) (fun i hi=>by
   have hx:=Aa hi;simp only[zgW];rw[zE,if_pos (by omega)];simp only[zb,hx,zk,P321_eq];unfold ziD;rw[hx,zE];simp only;rw[zJ (by omega) (by omega)];by_cases c:(jS o[i]).2=0
   ·rw[if_neg (fun h=>h c),if_neg (fun h=>h c)];rfl
   ·rw[if_pos c,if_pos c]
    rfl) (by
   simp only[zgW];rw[zE,if_neg (by omega)]
   rfl)
  rw[zO,L];cases (List.range o.length).findSome? (ziD o)<;>rfl
 ·rw[if_pos h0,if_pos h0]
def P320_eq (o:List Dim):P320 o=some ((zlh o).1,(zlh o).2.1,zA (zlh o).2.2):=by
 simp only[P320,S320,P14_eq,zk,zP];unfold zlh;by_cases h0:(qQ o).2.2=0
 ·obtain ok:=zbD.1 h0;have hl:=ok.len;rw[decide_eq_true h0,A4,za,if_neg (fun h=>h h0)];have L:=jl (B:=zgV P315 o) o.length (fun i=>(ziD o i).map fun r=>(r.1,r.2.1,zA r.2.2)) (fun i hi=>by
   have hx:=Aa hi;simp only[zgV];rw[zE,if_pos (by omega)];simp only[zb,hx,zk,P315_eq,zP];unfold ziD;rw[hx,zJ (by omega) (by omega)];simp only;by_cases c:(jS o[i]).2=0
   ·rw[decide_eq_true c,if_neg (fun h=>h c)];rfl
   ·rw[decide_eq_false c,if_pos c]
    rfl) (by
   simp only[zgV];rw[zE,if_neg (by omega)]
   rfl)
  rw[zO,L,qm];cases (List.range o.length).findSome? (ziD o)<;>rfl
 ·rw[decide_eq_false h0,B7,zg,if_pos h0]
def P352_eq (o:List Dim):P352 o=some (zA (zlh o).2.2):=by simp only[P352,S352,P320_eq,zk]
def P324_eq (o:List Dim):P324 o=some (zlh o).2.2:=by simp only[P324,S324,P319_eq,zk]
end
section
def nvN (s:ByteArray) (a:Nat):Nat->Nat
 | 0=>0
 | k+1=>nvN s a k * 10+(pk s (a+k) - 48)
def zjR {s:ByteArray} {a:Nat}:∀ (k:Nat),(∀ j,j < k->dgB (pk s (a+j))=true)->nvN s a k < 10 ^ k
 | 0,_=>by show 0 < 1;decide
 | k+1,h=>by
  have h1:=zjR k fun j hj=>h j (by omega);have h2:=h k (by omega);simp only[dgB,An,decide_eq_true_eq] at h2;simp only[nvN,CP];omega
def zjB:∀ (ds:List UInt8) (acc k:Nat) (c:UInt8),(∀ c∈ds,48<=c.toNat∧c.toNat<=57)->48<=c.toNat∧c.toNat<=57->acc < 10 ^ k->k+ds.length+1<=15->∀ u,Lib.parseUint10 acc ds=.ok u->Lib.parseUint10 acc (ds++[c])=.ok (u * 10+(c.toNat - 48))
 | [],acc,k,c,_,hc,ha,hl,u,h=>by
  have hp:(10:Nat) ^ k<=10 ^ 15:=BO (by decide) (by simp at hl;omega);have hq:(10:Nat) ^ 15=1000000000000000:=by decide
  simp only[Lib.parseUint10] at h;injection h with h;subst h;simp only[AE,Lib.parseUint10];rw[if_pos hc,if_neg (by omega),if_neg (by omega)]
 | d :: r,acc,k,c,hd,hc,ha,hl,u,h=>by
  obtain ⟨d1,d2⟩:=hd d (by simp);simp only[Ax] at hl;have hp:(10:Nat) ^ k<=10 ^ 15:=BO (by decide) (by omega);have hs:(10:Nat) ^ (k+1)=10 ^ k * 10:=CP ..;have hq:(10:Nat) ^ 15=1000000000000000:=by decide
  simp only[AD,Lib.parseUint10] at h ⊢;rw[if_pos ⟨d1,d2⟩,if_neg (by omega),if_neg (by omega)] at h ⊢;exact zjB r _ (k+1) c (fun c hc=>hd c (Af _ hc)) hc (by omega) (by omega) u h
def nv_uint {s:ByteArray} {a:Nat}:∀ (k:Nat),k<=14->(∀ j,j < k->dgB (pk s (a+j))=true)->Lib.parseUint10 0 (s.extract a (a+k)).data.toList=.ok (nvN s a k)
 | 0,_,_=>by
  rw[wY];simp[Lib.parseUint10,nvN]
 | k+1,hk,h=>by
  have ih:=nv_uint k (by omega) fun j hj=>h j (by omega);have hg:=h k (by omega);have ae:=zdb hg;obtain ⟨p1,p2⟩:=zca ae;have e:(s.extract a (a+(k+1))).data.toList=(s.extract a (a+k)).data.toList++[s.data[a+k]'ae]:=(by rw[wY,wY,show a+(k+1) - a=k+1 by omega,show a+k - a=k by omega,A6,BH,BM,p1];rfl);have oa:∀ c∈(s.extract a (a+k)).data.toList,48<=c.toNat∧c.toNat<=57:=fun c hc=>(by rw[wY,show a+k - a=k by omega] at hc;obtain ⟨j,hj,rfl⟩:=BF hc;have bB:j < k:=(by rw[Bm] at hj;omega);have hd:=h j (by omega);have cM:=zdb hd;rw[(zca cM).2] at hd;simp only[C8,CJ,Array.getElem_toList];simpa[dgB] using hd);have hc:48<=(s.data[a+k]'ae).toNat∧(s.data[a+k]'ae).toNat<=57:=(by rw[p2] at hg;simpa[dgB] using hg);have hlen:(s.extract a (a+k)).data.toList.length<=k:=(by rw[wY,Bm];omega);rw[e,zjB _ 0 0 _ oa hc (by decide) (by omega) _ ih];simp only[nvN,p2]
def nv_atoi {s:ByteArray} {a k:Nat} (h0:0 < k) (hk:k<=14) (h:∀ j,j < k->dgB (pk s (a+j))=true):(zcx (s.extract a (a+k))).1=(nvN s a k:Int):=by
 have hu:=nv_uint k hk h;have ae:=zjR k h;have fE:=h 0 h0;rw[BD] at fE;have hl:=zdb fE;obtain ⟨p1,p2⟩:=zca hl;have e3:(10:Nat) ^ k<=10 ^ 15:=BO (by decide) (by omega);have e4:(10:Nat) ^ 15=1000000000000000:=by decide
 have e:∃ r,(s.extract a (a+k)).data.toList=s.data[a]'hl :: r:=(by obtain ⟨m,rfl⟩:∃ m,k=m+1:=⟨k - 1,by omega⟩;rw[wY,show a+(m+1) - a=m+1 by omega];rw[Bh (by show a < s.size;exact hl),C1];exact ⟨_,rfl⟩);obtain ⟨r,hr⟩:=e;rw[hr] at hu;have hc:48<=(s.data[a]'hl).toNat∧(s.data[a]'hl).toNat<=57:=(by rw[p2] at fE;simpa[dgB] using fE);unfold zcx;have:Lib.atoiAll (s.extract a (a+k)).data.toList=.ok (nvN s a k:Int):=(by rw[hr];simp only[Lib.atoiAll,Lib.parseMag];rw[if_neg (show ¬ ((s.data[a]'hl).toNat=43∨(s.data[a]'hl).toNat=45) by omega),if_neg (by simp),hu];simp only;rw[if_neg (by omega),if_neg (by omega),if_neg (by omega)]);rw[this]
end
end Ab
