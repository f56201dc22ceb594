/-
  Functions of the program as typed code, what they come to, and their contracts: written by program (mk.py).
-/
import Derived.Test.YtchidgkpkhloeaaGreatDoorF2
set_option linter.unusedVariables false
noncomputable section
namespace Ab
open Go
set_option maxRecDepth 100000
section
variable (F100:Dim->Int->(Option LI)) (F122:LD->LY->(Option Int)) (F247:ByteArray->(Option (LN×Int×Int))) (F319:LD->(Option (Int×Int×Int))) (F321:Dim->(Option ((List LI)×Int×Int))) (F324:LD->(Option Int)) (F347:LI->Int->(Option LI)) (F348:LI->Int->(Option Bool)) (F94:LD->(Option (Int×Int×Int))) (F95:Dim->(Option (Int×Int))) (F96:Dim->ByteArray->(Option Int))
def tc347:TCode:=.seq (rg [om 4 cn]) (.seq (rg [om 5 (ci 0)]) (.seq (.loop ⟨[.slot 5 .int],[7,8,9,10,11,12,13,14,15,16,17,18,19,20],[],[]⟩ 0 (.seq (.seq (.regionJ ⟨[.slot 18 .bool],[7,8,9,10,11,12,13,14,15,16,17],[],[]⟩ [om 7 5,om 8 0,oq 9 (.len false 8),oq 10 (.bin .int .lss 7 9),om 11 10,og 12 (.mov 0) 11 true [],og 13 (.mov 5) 11 true [],og 14 (.ia 1 12 13) 11 true [],og 15 (.load none 14) 11 true [],og 16 (.mov 1) 11 true [],og 17 (.bin .int .lss 15 16) 11 true [],oq 18 (.pick 11 17 (cb false))] [] false) (.cond 18 (.skip) (.exit 0))) (.block 1 (rg [om 19 5,oq 20 (.bin .int .add 19 (ci 1)),om 5 20])))) (.seq (.seq (.regionJ ⟨[.slot 32 .bool],[21,22,23,24,25,26,27,28,29,30,31],[],[]⟩ [om 21 5,om 22 0,oq 23 (.len false 22),oq 24 (.bin .int .lss 21 23),om 25 24,og 26 (.mov 0) 25 true [],og 27 (.mov 5) 25 true [],og 28 (.ia 1 26 27) 25 true [],og 29 (.load none 28) 25 true [],og 30 (.mov 1) 25 true [],og 31 (.bin .int .eql 29 30) 25 true [],oq 32 (.pick 25 31 (cb false))] [] false) (.cond 32 (.seq (rg [om 33 0,om 4 33]) (.ret)) (.skip))) (.seq (rg [om 6 cn]) (.seq (rg [om 34 6,om 35 0,om 36 5,oq 37 (.slc 1 35 none (some 36)),oq 38 (.app 1 34 37),om 6 38]) (.seq (rg [om 39 6,om 40 1,oq 41 (.bslice false 1 [.int .i64 0] 1 [(0,40)]),oq 42 (.app 1 39 41),om 6 42]) (.seq (rg [om 43 6,om 44 0,om 45 5,oq 46 (.slc 1 44 (some 45) none),oq 47 (.app 1 43 46),om 4 47]) (.ret)))))))) 
def tf347:TFunc:=⟨2,48,[.tmp 4],false,tc347,[]⟩
def zdT (a0:LI) (a1:Int) (x1:Int):Option (LR Int LI) :=
 jn (σ:=Bool) (α:=(LR Int (List Int))) (br (decide (x1 < ((List.length a0:Nat):Int)))
 (bno (zn a0 x1) fun y2 =>
 zt (some (decide (y2 < a1))))
 (zt (some false))) fun x3 =>
 br x3
 (nxO (some (wi (x1+(1:Int)))))
 (dnO (some x1))
def S347 (a0:LI) (a1:Int):Option LI :=
 lp (zdT a0 a1) (0:Int) fun x4 =>
 jn (σ:=Bool) (α:=(List Int)) (br (decide (x4 < ((List.length a0:Nat):Int)))
 (bno (zn a0 x4) fun y5 =>
 zt (some (decide (y5=a1))))
 (zt (some false))) fun x6 =>
 br x6
 (some a0)
 (ck (decide (0<=(0:Int)∧(0:Int)<=x4∧x4<=((List.length a0:Nat):Int))) <|
 ck (decide (List.length (List.take (Int.toNat x4 - Int.toNat (0:Int)) (List.drop (Int.toNat (0:Int)) a0))<=zy)) <|
 ck (decide (List.length (List.take (Int.toNat x4 - Int.toNat (0:Int)) (List.drop (Int.toNat (0:Int)) a0))+List.length ([a1]:List Int)<=zy)) <|
 ck (decide (0<=x4∧x4<=((List.length a0:Nat):Int)∧((List.length a0:Nat):Int)<=((List.length a0:Nat):Int))) <|
 ck (decide (List.length ((List.take (Int.toNat x4 - Int.toNat (0:Int)) (List.drop (Int.toNat (0:Int)) a0))++([a1]:List Int))+List.length (List.take (Int.toNat ((List.length a0:Nat):Int) - Int.toNat x4) (List.drop (Int.toNat x4) a0))<=zy)) <|
 some (((List.take (Int.toNat x4 - Int.toNat (0:Int)) (List.drop (Int.toNat (0:Int)) a0))++([a1]:List Int))++(List.take (Int.toNat ((List.length a0:Nat):Int) - Int.toNat x4) (List.drop (Int.toNat x4) a0))))
def zeM:=S347
def k347:CSpec:=⟨347,[(.sl .int),.int],(.sl .int),fun x=>zeM x.1 x.2,false,[]⟩
theorem r347 {S:Seat} (h:Ok1 S 347 tf347):RtF S [] (Rt S k347):=okr h rfl fun x=>by kernel_rfl
def tc348:TCode:=.seq (rg [om 4 (cb false)]) (.seq (.seq (rg [om 5 (ci 0)]) (.loop ⟨[.slot 5 .int],[6,7,8,9,10,11,12,13,14,15,16,17],[],[]⟩ 0 (.seq (.seq (rg [om 6 5,om 7 0,oq 8 (.len false 7),oq 9 (.bin .int .lss 6 8)]) (.cond 9 (.skip) (.exit 0))) (.seq (.block 1 (.seq (rg [om 12 0,om 13 5,oq 14 (.ia 1 12 13),oq 15 (.load none 14),om 16 1,oq 17 (.bin .int .eql 15 16)]) (.cond 17 (.seq (rg [om 4 (cb true)]) (.ret)) (.skip)))) (rg [om 10 5,oq 11 (.bin .int .add 10 (ci 1)),om 5 11]))))) (.seq (rg [om 4 (cb false)]) (.ret))) 
def tf348:TFunc:=⟨2,18,[.tmp 4],false,tc348,[]⟩
def zfF (a0:LI) (a1:Int) (x1:Int):Option (LR Int Bool) :=
 br (decide (x1 < ((List.length a0:Nat):Int)))
 (bno (zn a0 x1) fun y2 =>
 br (decide (y2=a1))
 (jc (some true))
 (nxO (some (wi (x1+(1:Int))))))
 (dnO (some x1))
def S348 (a0:LI) (a1:Int):Option Bool :=
 lp (zfF a0 a1) (0:Int) fun x3 =>
 some false
def zjn:=S348
def k348:CSpec:=⟨348,[(.sl .int),.int],.bool,fun x=>zjn x.1 x.2,false,[]⟩
theorem r348 {S:Seat} (h:Ok1 S 348 tf348):RtF S [] (Rt S k348):=okr h rfl fun x=>by kernel_rfl
def tc321:TCode:=.seq (rg [oq 1 (.box 0),om 2 cn,om 3 (ci 0),om 4 (ci 0)]) (.seq (rg [oq 25 (.load (some 3) 1),oq 26 (.call false [] 95 [25]),om 24 26,oq 27 (.ext 24 0),oq 28 (.ext 24 1),om 5 27,om 6 28]) (.seq (.seq (rg [om 29 6,oq 30 (.bin .int .neq 29 (ci 0))]) (.cond 30 (.seq (rg [om 31 5,om 32 6,om 2 cn,om 3 31,om 4 32]) (.ret)) (.skip))) (.seq (rg [om 7 cn]) (.seq (.seq (rg [om 8 (ci 0)]) (.loop ⟨[.row 7 115 (.sl .int),.slot 8 .int],[9,10,11,12,13,14,15,16,33,34,35,36,37,38,39,40,41,42,43,44,45,46,47,48,49,50,51,52,53,54,55,56,57,58,59,62,63,64,65,66,67,68,69,70,71,72,73,74,75,76,77,78,79,80,81,82,84,85,86,87,88,89,90,91,92,93,94,95,96,97,98,99,100,101,102,103,104,105,106,107,108,109,110,111,112,113,114,115],[114],[]⟩ 0 (.seq (.seq (rg [om 33 8,oq 34 (.fa 2 1),oq 35 (.load none 34),oq 36 (.len false 35),oq 37 (.bin .int .lss 33 36)]) (.cond 37 (.skip) (.exit 0))) (.seq (.block 1 (.seq (rg [om 9 cn]) (.seq (.seq (rg [oq 40 (.fa 2 1),oq 41 (.load none 40),om 42 8,oq 43 (.ia 4 41 42),oq 44 (.fa 3 43),oq 45 (.load none 44),oq 46 (.bin .str .neq 45 (cs ⟨#[]⟩))]) (.condJ ⟨[.slot 9 (.sl .int)],[10,11,12,13,14,15,16,47,48,49,50,51,52,53,54,55,56,57,58,59,62,63,64,65,66,67,68,69,70,71,72,73,74,75,76,77,78,79,80,81,82,84,85,86,87,88,89,90,91,92,93,94,95,96,97,98,99,100,101,102,103,104,105,106,107,108,109,110,111],[],[]⟩ 46 (.seq (rg [oq 48 (.fa 2 1),oq 49 (.load none 48),om 50 8,oq 51 (.ia 4 49 50),oq 52 (.fa 3 51),oq 53 (.load none 52),oq 54 (.call true [] 247 [53]),om 47 54,oq 55 (.ext 47 0),oq 56 (.ext 47 1),oq 57 (.ext 47 2),om 10 55,om 11 56,om 12 57]) (.seq (.seq (rg [om 58 12,oq 59 (.bin .int .neq 58 (ci 0))]) (.cond 59 (.seq (rg [om 60 8,om 61 12,om 2 cn,om 3 60,om 4 61]) (.ret)) (.skip))) (.seq (rg [om 13 (ci 0)]) (.loop ⟨[.slot 9 (.sl .int),.slot 13 .int],[14,62,63,64,65,66,67,68,69,70,71,72,73,74,75,76,77,78,79,80,81,82,84,85,86],[],[]⟩ 2 (.seq (.seq (rg [om 62 13,om 63 10,oq 64 (.len false 63),oq 65 (.bin .int .lss 62 64)]) (.cond 65 (.skip) (.exit 2))) (.seq (.blockJ ⟨[.slot 9 (.sl .int)],[14,68,69,70,71,72,73,74,75,76,77,78,79,80,81,82,84,85,86],[],[]⟩ 3 (.seq (.seq (rg [om 68 10,om 69 13,oq 70 (.ia 5 68 69),oq 71 (.fa 0 70),oq 72 (.load none 71),oq 73 (.bin .int .neq 72 (ci 2))]) (.cond 73 (.exit 3) (.skip))) (.seq (.region [oq 74 (.load (some 3) 1),om 75 10,om 76 13,od 77 (.ia 5 75 76) [1,2],od 78 (.fa 2 77) [3],od 79 (.load none 78) [4],od 80 (.call false [] 96 [74,79]) [0,5],od 14 (.mov 80) [6,6,0,1,2,3,4,5,6]] [] true) (.seq (.seq (rg [om 81 14,oq 82 (.bin .int .lss 81 (ci 0))]) (.cond 82 (.seq (rg [om 83 8,om 2 cn,om 3 83,om 4 (ci 5)]) (.ret)) (.skip))) (rg [om 84 9,om 85 14,oq 86 (.call true [] 347 [84,85]),om 9 86]))))) (rg [om 66 13,oq 67 (.bin .int .add 66 (ci 1)),om 13 67]))))))) (.seq (rg [oq 87 (.load (some 3) 1),om 88 8,oq 89 (.call true [] 100 [87,88]),om 15 89]) (.seq (rg [om 16 (ci 0)]) (.loop ⟨[.slot 9 (.sl .int),.slot 16 .int],[90,91,92,93,94,95,96,97,98,99,100,101,102,103,104,105,106,107,108,109,110,111],[],[]⟩ 4 (.seq (.seq (rg [om 90 16,om 91 15,oq 92 (.len false 91),oq 93 (.bin .int .lss 90 92)]) (.cond 93 (.skip) (.exit 4))) (.seq (.block 5 (.seq (.region [oq 96 (.fa 2 1),od 97 (.load none 96) [0],om 98 15,om 99 16,od 100 (.ia 1 98 99) [2,3],od 101 (.load none 100) [4],od 102 (.ia 4 97 101) [1,5],od 103 (.fa 2 102) [6],od 104 (.load none 103) [7],od 105 (.bin .int .neq 104 (ci 0)) [8]] [] true) (.condJ ⟨[.slot 9 (.sl .int)],[106,107,108,109,110,111],[],[]⟩ 105 (rg [om 106 9,om 107 15,om 108 16,oq 109 (.ia 1 107 108),oq 110 (.load none 109),oq 111 (.call true [] 347 [106,110]),om 9 111]) (.skip)))) (rg [om 94 16,oq 95 (.bin .int .add 94 (ci 1)),om 16 95])))))))) (.region [om 112 7,om 113 9,oq 114 (.bslice true 1 [.slice none 0 0] 1 [(0,113)]),oq 115 (.app 1 112 114),om 7 115] [.int,.int,(.sl .int),(.sl .int)] false)))) (rg [om 38 8,oq 39 (.bin .int .add 38 (ci 1)),om 8 39]))))) (.seq (.seq (rg [om 17 (ci 0)]) (.loop ⟨[.slot 17 .int],[18,19,20,21,22,23,116,117,118,119,120,121,122,123,124,125,126,127,128,129,130,131,132,133,134,135,136,137,138,139,140,141,142,143,144,145,146,147,148,149,150,151,152,153,154,155,156,157,158,159,160,161,162,163,164,165,166,167,168,169,170,171,172,173,174],[],[]⟩ 6 (.seq (.seq (rg [om 116 17,om 117 7,oq 118 (.len false 117),oq 119 (.bin .int .lss 116 118)]) (.cond 119 (.skip) (.exit 6))) (.seq (.block 7 (.seq (rg [om 122 7,om 123 17,oq 124 (.ia 1 122 123),oq 125 (.load none 124),om 18 125]) (.seq (.seq (rg [om 19 (cb true)]) (.loop ⟨[.slot 18 (.sl .int),.slot 19 .bool],[20,21,22,126,127,128,129,130,131,132,133,134,135,136,137,138,139,140,141,142,143,144,145,146,147,148,149,150,151,152,153,154,155,156,157,158,159,160,161,162,163,164,165,166,167,168,169,170],[],[]⟩ 8 (.seq (.seq (rg [om 126 19]) (.cond 126 (.skip) (.exit 8))) (.block 9 (.seq (rg [om 19 (cb false)]) (.seq (rg [om 20 (ci 0)]) (.loop ⟨[.slot 18 (.sl .int),.slot 19 .bool,.slot 20 .int],[21,22,127,128,129,130,131,132,133,134,135,136,137,138,139,140,141,142,143,144,145,146,147,148,149,150,151,152,153,154,155,156,157,158,159,160,161,162,163,164,165,166,167,168,169,170],[],[]⟩ 10 (.seq (.seq (rg [om 127 20,om 128 18,oq 129 (.len false 128),oq 130 (.bin .int .lss 127 129)]) (.cond 130 (.skip) (.exit 10))) (.seq (.block 11 (.seq (rg [om 21 (ci 0)]) (.loop ⟨[.slot 18 (.sl .int),.slot 19 .bool,.slot 21 .int],[22,133,134,135,136,137,138,139,140,141,142,143,144,145,146,147,148,149,150,151,152,153,154,155,156,157,158,159,160,161,162,163,164,165,166,167,168,169,170],[],[]⟩ 12 (.seq (.seq (rg [om 133 21,om 134 7,om 135 18,om 136 20,oq 137 (.ia 1 135 136),oq 138 (.load none 137),oq 139 (.ia 1 134 138),oq 140 (.load none 139),oq 141 (.len false 140),oq 142 (.bin .int .lss 133 141)]) (.cond 142 (.skip) (.exit 12))) (.seq (.block 13 (.seq (rg [om 145 18,om 146 7,om 147 18,om 148 20,oq 149 (.ia 1 147 148),oq 150 (.load none 149),oq 151 (.ia 1 146 150),oq 152 (.load none 151),om 153 21,oq 154 (.ia 1 152 153),oq 155 (.load none 154),oq 156 (.call false [] 348 [145,155]),om 22 156]) (.seq (rg [om 157 22,oq 158 (.un .not 157)]) (.cond 158 (.seq (rg [om 159 18,om 160 7,om 161 18,om 162 20,oq 163 (.ia 1 161 162),oq 164 (.load none 163),oq 165 (.ia 1 160 164),oq 166 (.load none 165),om 167 21,oq 168 (.ia 1 166 167),oq 169 (.load none 168),oq 170 (.call true [] 347 [159,169]),om 18 170]) (.seq (rg [om 19 (cb true)]) (.exit 12))) (.skip))))) (rg [om 143 21,oq 144 (.bin .int .add 143 (ci 1)),om 21 144])))))) (rg [om 131 20,oq 132 (.bin .int .add 131 (ci 1)),om 20 132])))))))))) (.seq (rg [om 171 18,om 172 17,oq 173 (.call false [] 348 [171,172]),om 23 173]) (.seq (rg [om 174 23]) (.cond 174 (.seq (rg [om 175 17,om 2 cn,om 3 175,om 4 (ci 8)]) (.ret)) (.skip))))))) (rg [om 120 17,oq 121 (.bin .int .add 120 (ci 1)),om 17 121]))))) (.seq (rg [om 176 7,om 2 176,om 3 (ci (-1)),om 4 (ci 0)]) (.ret))))))) 
def tf321:TFunc:=⟨1,177,[.tmp 2,.tmp 3,.tmp 4],false,tc321,[]⟩
def zdW (a0:Dim) (x2:((List LI)×Int)) (y5:(LN×Int×Int)) (x6:(LI×Int)):Option (LR (LI×Int) (Sum LI (LR ((List LI)×Int) ((List LI)×Int×Int)))) :=
 br (decide (x6.2 < ((List.length y5.1:Nat):Int)))
 (jn (σ:=(List Int)) (α:=(LR ((List Int)×Int) (Sum (List Int) (LR ((List (List Int))×Int) ((List (List Int))×Int×Int))))) (bno (zn y5.1 x6.2) fun y7 =>
 br (decide (¬ (Node.op y7)=(2:Int)))
 (zt (some x6.1))
 (bno (zn y5.1 x6.2) fun y8 =>
 bno (F96 a0 (Node.name y8)) fun y9 =>
 br (decide (y9 < (0:Int)))
 (zez (jc (zez (jc (some (([]:List (List Int)),x2.2,(5:Int)))))))
 (bno (F347 x6.1 y9) fun y10 =>
 zt (some y10)))) fun x11 =>
 nxO (some (x11,wi (x6.2+(1:Int)))))
 (dnO (some (x6.1,x6.2)))
def zdV (a0:Dim) (y13:LI) (x14:(LI×Int)):Option (LR (LI×Int) (Sum LI (LR ((List LI)×Int) ((List LI)×Int×Int)))) :=
 br (decide (x14.2 < ((List.length y13:Nat):Int)))
 (bno (zn y13 x14.2) fun y15 =>
 bno (zn (Dim.members a0) y15) fun y16 =>
 jn (σ:=(List Int)) (α:=(LR ((List Int)×Int) (Sum (List Int) (LR ((List (List Int))×Int) ((List (List Int))×Int×Int))))) (br (decide (¬ (Member.sign y16)=(0:Int)))
 (bno (zn y13 x14.2) fun y17 =>
 bno (F347 x14.1 y17) fun y18 =>
 zt (some y18))
 (zt (some x14.1))) fun x19 =>
 nxO (some (x19,wi (x14.2+(1:Int)))))
 (dnO (some (x14.1,x14.2)))
def zfQ (a0:Dim) (x2:((List LI)×Int)):Option (LR ((List LI)×Int) ((List LI)×Int×Int)) :=
 br (decide (x2.2 < ((List.length (Dim.members a0):Nat):Int)))
 (bno (zn (Dim.members a0) x2.2) fun y3 =>
 jn (σ:=(List Int)) (α:=(LR ((List (List Int))×Int) ((List (List Int))×Int×Int))) (br (decide (¬ (Member.formula y3)=(⟨#[]⟩:ByteArray)))
 (bno (zn (Dim.members a0) x2.2) fun y4 =>
 bno (F247 (Member.formula y4)) fun y5 =>
 br (decide (¬ y5.2.2=(0:Int)))
 (zez (jc (some (([]:List (List Int)),x2.2,y5.2.2))))
 (lp (zdW F347 F96 a0 x2 y5) (([]:List Int),(0:Int)) fun x12 =>
 zt (some x12.1)))
 (bno (F100 a0 x2.2) fun y13 =>
 lp (zdV F347 a0 y13) (([]:List Int),(0:Int)) fun x20 =>
 zt (some x20.1))) fun x21 =>
 ck (decide (List.length x2.1+List.length ([x21]:List (List Int))<=zy)) <|
 nxO (some (x2.1++([x21]:List (List Int)),wi (x2.2+(1:Int)))))
 (dnO (some (x2.1,x2.2)))
def zdU (x22:((List LI)×Int)) (x26:(LI×Bool×Int)) (x27:(LI×Bool×Int)):Option (LR (LI×Bool×Int) (LR (LI×Bool×Int) (LR (LI×Bool) (LR Int ((List LI)×Int×Int))))) :=
 bno (zn x27.1 x26.2.2) fun y28 =>
 ck (decide (0<=y28∧y28 < ((List.length x22.1:Nat):Int))) <|
 bno ((x22.1)[(Int.toNat y28)]?) fun y29 =>
 br (decide (x27.2.2 < ((List.length y29:Nat):Int)))
 (bno (zn x27.1 x26.2.2) fun y30 =>
 ck (decide (0<=y30∧y30 < ((List.length x22.1:Nat):Int))) <|
 bno ((x22.1)[(Int.toNat y30)]?) fun y31 =>
 bno (zn y31 x27.2.2) fun y32 =>
 bno (F348 x27.1 y32) fun y33 =>
 br (!y33)
 (bno (zn x27.1 x26.2.2) fun y34 =>
 ck (decide (0<=y34∧y34 < ((List.length x22.1:Nat):Int))) <|
 bno ((x22.1)[(Int.toNat y34)]?) fun y35 =>
 bno (zn y35 x27.2.2) fun y36 =>
 bno (F347 x27.1 y36) fun y37 =>
 dnO (some (y37,true,x27.2.2)))
 (nxO (some (x27.1,x27.2.1,wi (x27.2.2+(1:Int))))))
 (dnO (some (x27.1,x27.2.1,x27.2.2)))
def zfP (x22:((List LI)×Int)) (x26:(LI×Bool×Int)):Option (LR (LI×Bool×Int) (LR (LI×Bool) (LR Int ((List LI)×Int×Int)))) :=
 br (decide (x26.2.2 < ((List.length x26.1:Nat):Int)))
 (lp (zdU F347 F348 x22 x26) (x26.1,x26.2.1,(0:Int)) fun x38 =>
 nxO (some (x38.1,x38.2.1,wi (x26.2.2+(1:Int)))))
 (dnO (some (x26.1,x26.2.1,x26.2.2)))
def zb2 (x22:((List LI)×Int)) (x25:(LI×Bool)):Option (LR (LI×Bool) (LR Int ((List LI)×Int×Int))) :=
 br x25.2
 (lp (zfP F347 F348 x22) (x25.1,false,(0:Int)) fun x39 =>
 nxO (some (x39.1,x39.2.1)))
 (dnO (some (x25.1,x25.2)))
def zfO (x22:((List LI)×Int)) (x23:Int):Option (LR Int ((List LI)×Int×Int)) :=
 br (decide (x23 < ((List.length x22.1:Nat):Int)))
 (ck (decide (0<=x23∧x23 < ((List.length x22.1:Nat):Int))) <|
 bno ((x22.1)[(Int.toNat x23)]?) fun y24 =>
 lp (zb2 F347 F348 x22) (y24,true) fun x40 =>
 bno (F348 x40.1 x23) fun y41 =>
 br y41
 (jc (some (([]:List (List Int)),x23,(8:Int))))
 (nxO (some (wi (x23+(1:Int))))))
 (dnO (some x23))
def S321 (a0:Dim):Option ((List LI)×Int×Int) :=
 bno (F95 a0) fun y1 =>
 br (decide (¬ y1.2=(0:Int)))
 (some (([]:List (List Int)),y1.1,y1.2))
 (lp (zfQ F100 F247 F347 F96 a0) (([]:List (List Int)),(0:Int)) fun x22 =>
 lp (zfO F347 F348 x22) (0:Int) fun x42 =>
 some (x22.1,(-1:Int),(0:Int)))
def P321:=S321 P100 P247 zeM zjn P95 P96
def k321:CSpec:=⟨321,[(.st .dim)],(.tp [(.sl (.sl .int)),.int,.int]),fun x=>P321 x,false,[]⟩
theorem r321 {S:Seat} (h:Ok1 S 321 tf321):RtF S [k100,k247,k347,k348,k95,k96] (Rt S k321):=okr h rfl fun x=>by kernel_rfl
def tc319:TCode:=.seq (rg [oq 1 (.box 0),om 2 (ci 0),om 3 (ci 0),om 4 (ci 0)]) (.seq (rg [oq 13 (.load (some 1) 1),oq 14 (.call false [] 94 [13]),om 12 14,oq 15 (.ext 12 0),oq 16 (.ext 12 1),oq 17 (.ext 12 2),om 5 15,om 6 16,om 7 17]) (.seq (.seq (rg [om 18 7,oq 19 (.bin .int .neq 18 (ci 0))]) (.cond 19 (.seq (rg [om 20 5,om 21 6,om 22 7,om 2 20,om 3 21,om 4 22]) (.ret)) (.skip))) (.seq (.seq (rg [om 8 (ci 0)]) (.loop ⟨[.slot 8 .int],[9,10,11,23,24,25,26,27,28,29,30,31,32,33,34,35,36,37,38,39,40,41],[],[]⟩ 0 (.seq (.seq (rg [om 23 8,oq 24 (.fa 0 1),oq 25 (.load none 24),oq 26 (.len false 25),oq 27 (.bin .int .lss 23 26)]) (.cond 27 (.skip) (.exit 0))) (.seq (.block 1 (.seq (rg [oq 31 (.fa 0 1),oq 32 (.load none 31),om 33 8,oq 34 (.ia 3 32 33),oq 35 (.load (some 3) 34),oq 36 (.call true [] 321 [35]),om 30 36,oq 37 (.ext 30 0),oq 38 (.ext 30 1),oq 39 (.ext 30 2),om 9 37,om 10 38,om 11 39]) (.seq (rg [om 40 11,oq 41 (.bin .int .neq 40 (ci 0))]) (.cond 41 (.seq (rg [om 42 8,om 43 10,om 44 11,om 2 42,om 3 43,om 4 44]) (.ret)) (.skip))))) (rg [om 28 8,oq 29 (.bin .int .add 28 (ci 1)),om 8 29]))))) (.seq (rg [om 2 (ci (-1)),om 3 (ci (-1)),om 4 (ci 0)]) (.ret))))) 
def tf319:TFunc:=⟨1,45,[.tmp 2,.tmp 3,.tmp 4],false,tc319,[]⟩
def zfS (a0:LD) (x2:Int):Option (LR Int (Int×Int×Int)) :=
 br (decide (x2 < ((List.length a0:Nat):Int)))
 (bno (zn a0 x2) fun y3 =>
 bno (F321 y3) fun y4 =>
 br (decide (¬ y4.2.2=(0:Int)))
 (jc (some (x2,y4.2.1,y4.2.2)))
 (nxO (some (wi (x2+(1:Int))))))
 (dnO (some x2))
def S319 (a0:LD):Option (Int×Int×Int) :=
 bno (F94 a0) fun y1 =>
 br (decide (¬ y1.2.2=(0:Int)))
 (some (y1.1,y1.2.1,y1.2.2))
 (lp (zfS F321 a0) (0:Int) fun x5 =>
 some ((-1:Int),(-1:Int),(0:Int)))
def P319:=S319 P321 P94
def k319:CSpec:=⟨319,[(.st .outl)],(.tp [.int,.int,.int]),fun x=>P319 x,false,[]⟩
theorem r319 {S:Seat} (h:Ok1 S 319 tf319):RtF S [k321,k94] (Rt S k319):=okr h rfl fun x=>by kernel_rfl
def tc324:TCode:=.seq (rg [oq 1 (.box 0),om 2 (ci 0)]) (.seq (rg [oq 7 (.load (some 1) 1),oq 8 (.call false [] 319 [7]),om 6 8,oq 9 (.ext 6 0),oq 10 (.ext 6 1),oq 11 (.ext 6 2),om 3 9,om 4 10,om 5 11]) (.seq (rg [om 12 5,om 2 12]) (.ret))) 
def tf324:TFunc:=⟨1,13,[.tmp 2],false,tc324,[]⟩
def S324 (a0:LD):Option Int :=
 bno (F319 a0) fun y1 =>
 some y1.2.2
def P324:=S324 P319
def k324:CSpec:=⟨324,[(.st .outl)],.int,fun x=>P324 x,false,[]⟩
theorem r324 {S:Seat} (h:Ok1 S 324 tf324):RtF S [k319] (Rt S k324):=okr h rfl fun x=>by kernel_rfl
def tc335:TCode:=.seq (rg [oq 2 (.box 0),om 4 (ci 0)]) (.seq (rg [oq 6 (.load (some 1) 2),oq 7 (.call false [] 324 [6]),om 5 7]) (.seq (.seq (rg [om 8 5,oq 9 (.bin .int .eql 8 (ci 0))]) (.condJ ⟨[.slot 5 .int],[10,11,12],[],[]⟩ 9 (rg [oq 10 (.load (some 1) 2),om 11 1,oq 12 (.call false [] 122 [10,11]),om 5 12]) (.skip))) (.seq (rg [om 13 5,om 4 13]) (.ret)))) 
def tf335:TFunc:=⟨2,14,[.tmp 4],false,tc335,[]⟩
def S335 (a0:LD) (a1:LY):Option Int :=
 bno (F324 a0) fun y1 =>
 jn (σ:=Int) (α:=Int) (br (decide (y1=(0:Int)))
 (bno (F122 a0 a1) fun y2 =>
 zt (some y2))
 (zt (some y1))) fun x3 =>
 some x3
def P335:=S335 P122 P324
def k335:CSpec:=⟨335,[(.st .outl),(.sl .entry)],.int,fun x=>P335 x.1 x.2,false,[]⟩
theorem r335 {S:Seat} (h:Ok1 S 335 tf335):RtF S [k122,k324] (Rt S k335):=okr h rfl fun x=>by kernel_rfl
end
end Ab
