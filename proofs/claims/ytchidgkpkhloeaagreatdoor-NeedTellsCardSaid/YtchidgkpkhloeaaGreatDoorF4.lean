import Derived.Test.YtchidgkpkhloeaaGreatDoorE2
open List (getElem?_eq_getElem getElem_mem length_drop length_map length_range length_singleton length_take map_append mem_filter mem_map mem_of_getElem? mem_range take_add_one)
open Nat (le_trans)
open Option (map_none map_some)
open Int (toNat_natCast)
set_option linter.unusedVariables false
set_option linter.unusedSimpArgs false
noncomputable section
namespace Ab
open Go
section
set_option maxRecDepth 100000
section
variable (F100:Dim->Int->(Option LI)) (F122:LD->LY->(Option Int)) (F247:ByteArray->(Option (LN×Int×Int))) (F319:LD->(Option (Int×Int×Int))) (F321:Dim->(Option ((List LI)×Int×Int))) (F324:LD->(Option Int)) (F347:LI->Int->(Option LI)) (F348:LI->Int->(Option Bool)) (F94:LD->(Option (Int×Int×Int))) (F95:Dim->(Option (Int×Int))) (F96:Dim->ByteArray->(Option Int))
def tc347:TCode:=.seq (rg [om 4 cn]) (.seq (rg [om 5 (ci 0)]) (.seq (.loop ⟨[.slot 5 .int],[7,8,9,10,11,12,13,14,15,16,17,18,19,20],[],[]⟩ 0 (.seq (.seq (.regionJ ⟨[.slot 18 .bool],[7,8,9,10,11,12,13,14,15,16,17],[],[]⟩ [om 7 5,om 8 0,oq 9 (.len false 8),oq 10 (.bin .int .lss 7 9),om 11 10,og 12 (.mov 0) 11 true [],og 13 (.mov 5) 11 true [],og 14 (.ia 1 12 13) 11 true [],og 15 (.load none 14) 11 true [],og 16 (.mov 1) 11 true [],og 17 (.bin .int .lss 15 16) 11 true [],oq 18 (.pick 11 17 (cb false))] [] false) (.cond 18 (.skip) (.exit 0))) (.block 1 (rg [om 19 5,oq 20 (.bin .int .add 19 (ci 1)),om 5 20])))) (.seq (.seq (.regionJ ⟨[.slot 32 .bool],[21,22,23,24,25,26,27,28,29,30,31],[],[]⟩ [om 21 5,om 22 0,oq 23 (.len false 22),oq 24 (.bin .int .lss 21 23),om 25 24,og 26 (.mov 0) 25 true [],og 27 (.mov 5) 25 true [],og 28 (.ia 1 26 27) 25 true [],og 29 (.load none 28) 25 true [],og 30 (.mov 1) 25 true [],og 31 (.bin .int .eql 29 30) 25 true [],oq 32 (.pick 25 31 (cb false))] [] false) (.cond 32 (.seq (rg [om 33 0,om 4 33]) (.ret)) (.skip))) (.seq (rg [om 6 cn]) (.seq (rg [om 34 6,om 35 0,om 36 5,oq 37 (.slc 1 35 none (some 36)),oq 38 (.app 1 34 37),om 6 38]) (.seq (rg [om 39 6,om 40 1,oq 41 (.bslice false 1 [.int .i64 0] 1 [(0,40)]),oq 42 (.app 1 39 41),om 6 42]) (.seq (rg [om 43 6,om 44 0,om 45 5,oq 46 (.slc 1 44 (some 45) none),oq 47 (.app 1 43 46),om 4 47]) (.ret)))))))) 
def tf347:TFunc:=⟨2,48,[.tmp 4],false,tc347,[]⟩
def zdK (a0:LI) (a1:Int) (x1:Int):Option (LR Int LI) :=
 jn (σ:=Bool) (α:=(LR Int (List Int))) (br (decide (x1 < ((List.length a0:Nat):Int)))
 (bno (zm a0 x1) fun y2 =>
 zw (some (decide (y2 < a1))))
 (zw (some false))) fun x3 =>
 br x3
 (nxO (some (wi (x1+(1:Int)))))
 (dnO (some x1))
def S347 (a0:LI) (a1:Int):Option LI :=
 lp (zdK a0 a1) (0:Int) fun x4 =>
 jn (σ:=Bool) (α:=(List Int)) (br (decide (x4 < ((List.length a0:Nat):Int)))
 (bno (zm a0 x4) fun y5 =>
 zw (some (decide (y5=a1))))
 (zw (some false))) fun x6 =>
 br x6
 (some a0)
 (ck (decide (0<=(0:Int)∧(0:Int)<=x4∧x4<=((List.length a0:Nat):Int))) <|
 ck (decide (List.length (List.take (Int.toNat x4 - Int.toNat (0:Int)) (List.drop (Int.toNat (0:Int)) a0))<=zA)) <|
 ck (decide (List.length (List.take (Int.toNat x4 - Int.toNat (0:Int)) (List.drop (Int.toNat (0:Int)) a0))+List.length ([a1]:List Int)<=zA)) <|
 ck (decide (0<=x4∧x4<=((List.length a0:Nat):Int)∧((List.length a0:Nat):Int)<=((List.length a0:Nat):Int))) <|
 ck (decide (List.length ((List.take (Int.toNat x4 - Int.toNat (0:Int)) (List.drop (Int.toNat (0:Int)) a0))++([a1]:List Int))+List.length (List.take (Int.toNat ((List.length a0:Nat):Int) - Int.toNat x4) (List.drop (Int.toNat x4) a0))<=zA)) <|
 some (((List.take (Int.toNat x4 - Int.toNat (0:Int)) (List.drop (Int.toNat (0:Int)) a0))++([a1]:List Int))++(List.take (Int.toNat ((List.length a0:Nat):Int) - Int.toNat x4) (List.drop (Int.toNat x4) a0))))
def zeD:=S347
def k347:CSpec:=⟨347,[(.sl .int),.int],(.sl .int),fun x=>zeD x.1 x.2,false,[]⟩
theorem r347 {S:Seat} (h:Ok1 S 347 tf347):RtF S [] (Rt S k347):=okr h rfl fun x=>by kernel_rfl
def tc348:TCode:=.seq (rg [om 4 (cb false)]) (.seq (.seq (rg [om 5 (ci 0)]) (.loop ⟨[.slot 5 .int],[6,7,8,9,10,11,12,13,14,15,16,17],[],[]⟩ 0 (.seq (.seq (rg [om 6 5,om 7 0,oq 8 (.len false 7),oq 9 (.bin .int .lss 6 8)]) (.cond 9 (.skip) (.exit 0))) (.seq (.block 1 (.seq (rg [om 12 0,om 13 5,oq 14 (.ia 1 12 13),oq 15 (.load none 14),om 16 1,oq 17 (.bin .int .eql 15 16)]) (.cond 17 (.seq (rg [om 4 (cb true)]) (.ret)) (.skip)))) (rg [om 10 5,oq 11 (.bin .int .add 10 (ci 1)),om 5 11]))))) (.seq (rg [om 4 (cb false)]) (.ret))) 
def tf348:TFunc:=⟨2,18,[.tmp 4],false,tc348,[]⟩
def zfu (a0:LI) (a1:Int) (x1:Int):Option (LR Int Bool) :=
 br (decide (x1 < ((List.length a0:Nat):Int)))
 (bno (zm a0 x1) fun y2 =>
 br (decide (y2=a1))
 (jf (some true))
 (nxO (some (wi (x1+(1:Int))))))
 (dnO (some x1))
def S348 (a0:LI) (a1:Int):Option Bool :=
 lp (zfu a0 a1) (0:Int) fun x3 =>
 some false
def zi5:=S348
def k348:CSpec:=⟨348,[(.sl .int),.int],.bool,fun x=>zi5 x.1 x.2,false,[]⟩
theorem r348 {S:Seat} (h:Ok1 S 348 tf348):RtF S [] (Rt S k348):=okr h rfl fun x=>by kernel_rfl
def tc321:TCode:=.seq (rg [oq 1 (.box 0),om 2 cn,om 3 (ci 0),om 4 (ci 0)]) (.seq (rg [oq 25 (.load (some 3) 1),oq 26 (.call false [] 95 [25]),om 24 26,oq 27 (.ext 24 0),oq 28 (.ext 24 1),om 5 27,om 6 28]) (.seq (.seq (rg [om 29 6,oq 30 (.bin .int .neq 29 (ci 0))]) (.cond 30 (.seq (rg [om 31 5,om 32 6,om 2 cn,om 3 31,om 4 32]) (.ret)) (.skip))) (.seq (rg [om 7 cn]) (.seq (.seq (rg [om 8 (ci 0)]) (.loop ⟨[.row 7 115 (.sl .int),.slot 8 .int],[9,10,11,12,13,14,15,16,33,34,35,36,37,38,39,40,41,42,43,44,45,46,47,48,49,50,51,52,53,54,55,56,57,58,59,62,63,64,65,66,67,68,69,70,71,72,73,74,75,76,77,78,79,80,81,82,84,85,86,87,88,89,90,91,92,93,94,95,96,97,98,99,100,101,102,103,104,105,106,107,108,109,110,111,112,113,114,115],[114],[]⟩ 0 (.seq (.seq (rg [om 33 8,oq 34 (.fa 2 1),oq 35 (.load none 34),oq 36 (.len false 35),oq 37 (.bin .int .lss 33 36)]) (.cond 37 (.skip) (.exit 0))) (.seq (.block 1 (.seq (rg [om 9 cn]) (.seq (.seq (rg [oq 40 (.fa 2 1),oq 41 (.load none 40),om 42 8,oq 43 (.ia 4 41 42),oq 44 (.fa 3 43),oq 45 (.load none 44),oq 46 (.bin .str .neq 45 (cs ⟨#[]⟩))]) (.condJ ⟨[.slot 9 (.sl .int)],[10,11,12,13,14,15,16,47,48,49,50,51,52,53,54,55,56,57,58,59,62,63,64,65,66,67,68,69,70,71,72,73,74,75,76,77,78,79,80,81,82,84,85,86,87,88,89,90,91,92,93,94,95,96,97,98,99,100,101,102,103,104,105,106,107,108,109,110,111],[],[]⟩ 46 (.seq (rg [oq 48 (.fa 2 1),oq 49 (.load none 48),om 50 8,oq 51 (.ia 4 49 50),oq 52 (.fa 3 51),oq 53 (.load none 52),oq 54 (.call true [] 247 [53]),om 47 54,oq 55 (.ext 47 0),oq 56 (.ext 47 1),oq 57 (.ext 47 2),om 10 55,om 11 56,om 12 57]) (.seq (.seq (rg [om 58 12,oq 59 (.bin .int .neq 58 (ci 0))]) (.cond 59 (.seq (rg [om 60 8,om 61 12,om 2 cn,om 3 60,om 4 61]) (.ret)) (.skip))) (.seq (rg [om 13 (ci 0)]) (.loop ⟨[.slot 9 (.sl .int),.slot 13 .int],[14,62,63,64,65,66,67,68,69,70,71,72,73,74,75,76,77,78,79,80,81,82,84,85,86],[],[]⟩ 2 (.seq (.seq (rg [om 62 13,om 63 10,oq 64 (.len false 63),oq 65 (.bin .int .lss 62 64)]) (.cond 65 (.skip) (.exit 2))) (.seq (.blockJ ⟨[.slot 9 (.sl .int)],[14,68,69,70,71,72,73,74,75,76,77,78,79,80,81,82,84,85,86],[],[]⟩ 3 (.seq (.seq (rg [om 68 10,om 69 13,oq 70 (.ia 5 68 69),oq 71 (.fa 0 70),oq 72 (.load none 71),oq 73 (.bin .int .neq 72 (ci 2))]) (.cond 73 (.exit 3) (.skip))) (.seq (.region [oq 74 (.load (some 3) 1),om 75 10,om 76 13,od 77 (.ia 5 75 76) [1,2],od 78 (.fa 2 77) [3],od 79 (.load none 78) [4],od 80 (.call false [] 96 [74,79]) [0,5],od 14 (.mov 80) [6,6,0,1,2,3,4,5,6]] [] true) (.seq (.seq (rg [om 81 14,oq 82 (.bin .int .lss 81 (ci 0))]) (.cond 82 (.seq (rg [om 83 8,om 2 cn,om 3 83,om 4 (ci 5)]) (.ret)) (.skip))) (rg [om 84 9,om 85 14,oq 86 (.call true [] 347 [84,85]),om 9 86]))))) (rg [om 66 13,oq 67 (.bin .int .add 66 (ci 1)),om 13 67]))))))) (.seq (rg [oq 87 (.load (some 3) 1),om 88 8,oq 89 (.call true [] 100 [87,88]),om 15 89]) (.seq (rg [om 16 (ci 0)]) (.loop ⟨[.slot 9 (.sl .int),.slot 16 .int],[90,91,92,93,94,95,96,97,98,99,100,101,102,103,104,105,106,107,108,109,110,111],[],[]⟩ 4 (.seq (.seq (rg [om 90 16,om 91 15,oq 92 (.len false 91),oq 93 (.bin .int .lss 90 92)]) (.cond 93 (.skip) (.exit 4))) (.seq (.block 5 (.seq (.region [oq 96 (.fa 2 1),od 97 (.load none 96) [0],om 98 15,om 99 16,od 100 (.ia 1 98 99) [2,3],od 101 (.load none 100) [4],od 102 (.ia 4 97 101) [1,5],od 103 (.fa 2 102) [6],od 104 (.load none 103) [7],od 105 (.bin .int .neq 104 (ci 0)) [8]] [] true) (.condJ ⟨[.slot 9 (.sl .int)],[106,107,108,109,110,111],[],[]⟩ 105 (rg [om 106 9,om 107 15,om 108 16,oq 109 (.ia 1 107 108),oq 110 (.load none 109),oq 111 (.call true [] 347 [106,110]),om 9 111]) (.skip)))) (rg [om 94 16,oq 95 (.bin .int .add 94 (ci 1)),om 16 95])))))))) (.region [om 112 7,om 113 9,oq 114 (.bslice true 1 [.slice none 0 0] 1 [(0,113)]),oq 115 (.app 1 112 114),om 7 115] [.int,.int,(.sl .int),(.sl .int)] false)))) (rg [om 38 8,oq 39 (.bin .int .add 38 (ci 1)),om 8 39]))))) (.seq (.seq (rg [om 17 (ci 0)]) (.loop ⟨[.slot 17 .int],[18,19,20,21,22,23,116,117,118,119,120,121,122,123,124,125,126,127,128,129,130,131,132,133,134,135,136,137,138,139,140,141,142,143,144,145,146,147,148,149,150,151,152,153,154,155,156,157,158,159,160,161,162,163,164,165,166,167,168,169,170,171,172,173,174],[],[]⟩ 6 (.seq (.seq (rg [om 116 17,om 117 7,oq 118 (.len false 117),oq 119 (.bin .int .lss 116 118)]) (.cond 119 (.skip) (.exit 6))) (.seq (.block 7 (.seq (rg [om 122 7,om 123 17,oq 124 (.ia 1 122 123),oq 125 (.load none 124),om 18 125]) (.seq (.seq (rg [om 19 (cb true)]) (.loop ⟨[.slot 18 (.sl .int),.slot 19 .bool],[20,21,22,126,127,128,129,130,131,132,133,134,135,136,137,138,139,140,141,142,143,144,145,146,147,148,149,150,151,152,153,154,155,156,157,158,159,160,161,162,163,164,165,166,167,168,169,170],[],[]⟩ 8 (.seq (.seq (rg [om 126 19]) (.cond 126 (.skip) (.exit 8))) (.block 9 (.seq (rg [om 19 (cb false)]) (.seq (rg [om 20 (ci 0)]) (.loop ⟨[.slot 18 (.sl .int),.slot 19 .bool,.slot 20 .int],[21,22,127,128,129,130,131,132,133,134,135,136,137,138,139,140,141,142,143,144,145,146,147,148,149,150,151,152,153,154,155,156,157,158,159,160,161,162,163,164,165,166,167,168,169,170],[],[]⟩ 10 (.seq (.seq (rg [om 127 20,om 128 18,oq 129 (.len false 128),oq 130 (.bin .int .lss 127 129)]) (.cond 130 (.skip) (.exit 10))) (.seq (.block 11 (.seq (rg [om 21 (ci 0)]) (.loop ⟨[.slot 18 (.sl .int),.slot 19 .bool,.slot 21 .int],[22,133,134,135,136,137,138,139,140,141,142,143,144,145,146,147,148,149,150,151,152,153,154,155,156,157,158,159,160,161,162,163,164,165,166,167,168,169,170],[],[]⟩ 12 (.seq (.seq (rg [om 133 21,om 134 7,om 135 18,om 136 20,oq 137 (.ia 1 135 136),oq 138 (.load none 137),oq 139 (.ia 1 134 138),oq 140 (.load none 139),oq 141 (.len false 140),oq 142 (.bin .int .lss 133 141)]) (.cond 142 (.skip) (.exit 12))) (.seq (.block 13 (.seq (rg [om 145 18,om 146 7,om 147 18,om 148 20,oq 149 (.ia 1 147 148),oq 150 (.load none 149),oq 151 (.ia 1 146 150),oq 152 (.load none 151),om 153 21,oq 154 (.ia 1 152 153),oq 155 (.load none 154),oq 156 (.call false [] 348 [145,155]),om 22 156]) (.seq (rg [om 157 22,oq 158 (.un .not 157)]) (.cond 158 (.seq (rg [om 159 18,om 160 7,om 161 18,om 162 20,oq 163 (.ia 1 161 162),oq 164 (.load none 163),oq 165 (.ia 1 160 164),oq 166 (.load none 165),om 167 21,oq 168 (.ia 1 166 167),oq 169 (.load none 168),oq 170 (.call true [] 347 [159,169]),om 18 170]) (.seq (rg [om 19 (cb true)]) (.exit 12))) (.skip))))) (rg [om 143 21,oq 144 (.bin .int .add 143 (ci 1)),om 21 144])))))) (rg [om 131 20,oq 132 (.bin .int .add 131 (ci 1)),om 20 132])))))))))) (.seq (rg [om 171 18,om 172 17,oq 173 (.call false [] 348 [171,172]),om 23 173]) (.seq (rg [om 174 23]) (.cond 174 (.seq (rg [om 175 17,om 2 cn,om 3 175,om 4 (ci 8)]) (.ret)) (.skip))))))) (rg [om 120 17,oq 121 (.bin .int .add 120 (ci 1)),om 17 121]))))) (.seq (rg [om 176 7,om 2 176,om 3 (ci (-1)),om 4 (ci 0)]) (.ret))))))) 
def tf321:TFunc:=⟨1,177,[.tmp 2,.tmp 3,.tmp 4],false,tc321,[]⟩
def zdO (a0:Dim) (x2:((List LI)×Int)) (y5:(LN×Int×Int)) (x6:(LI×Int)):Option (LR (LI×Int) (Sum LI (LR ((List LI)×Int) ((List LI)×Int×Int)))) :=
 br (decide (x6.2 < ((List.length y5.1:Nat):Int)))
 (jn (σ:=(List Int)) (α:=(LR ((List Int)×Int) (Sum (List Int) (LR ((List (List Int))×Int) ((List (List Int))×Int×Int))))) (bno (zm y5.1 x6.2) fun y7 =>
 br (decide (¬ (Node.op y7)=(2:Int)))
 (zw (some x6.1))
 (bno (zm y5.1 x6.2) fun y8 =>
 bno (F96 a0 (Node.name y8)) fun y9 =>
 br (decide (y9 < (0:Int)))
 (zep (jf (zep (jf (some (([]:List (List Int)),x2.2,(5:Int)))))))
 (bno (F347 x6.1 y9) fun y10 =>
 zw (some y10)))) fun x11 =>
 nxO (some (x11,wi (x6.2+(1:Int)))))
 (dnO (some (x6.1,x6.2)))
def zdN (a0:Dim) (y13:LI) (x14:(LI×Int)):Option (LR (LI×Int) (Sum LI (LR ((List LI)×Int) ((List LI)×Int×Int)))) :=
 br (decide (x14.2 < ((List.length y13:Nat):Int)))
 (bno (zm y13 x14.2) fun y15 =>
 bno (zm (Dim.members a0) y15) fun y16 =>
 jn (σ:=(List Int)) (α:=(LR ((List Int)×Int) (Sum (List Int) (LR ((List (List Int))×Int) ((List (List Int))×Int×Int))))) (br (decide (¬ (Member.sign y16)=(0:Int)))
 (bno (zm y13 x14.2) fun y17 =>
 bno (F347 x14.1 y17) fun y18 =>
 zw (some y18))
 (zw (some x14.1))) fun x19 =>
 nxO (some (x19,wi (x14.2+(1:Int)))))
 (dnO (some (x14.1,x14.2)))
def zfM (a0:Dim) (x2:((List LI)×Int)):Option (LR ((List LI)×Int) ((List LI)×Int×Int)) :=
 br (decide (x2.2 < ((List.length (Dim.members a0):Nat):Int)))
 (bno (zm (Dim.members a0) x2.2) fun y3 =>
 jn (σ:=(List Int)) (α:=(LR ((List (List Int))×Int) ((List (List Int))×Int×Int))) (br (decide (¬ (Member.formula y3)=(⟨#[]⟩:ByteArray)))
 (bno (zm (Dim.members a0) x2.2) fun y4 =>
 bno (F247 (Member.formula y4)) fun y5 =>
 br (decide (¬ y5.2.2=(0:Int)))
 (zep (jf (some (([]:List (List Int)),x2.2,y5.2.2))))
 (lp (zdO F347 F96 a0 x2 y5) (([]:List Int),(0:Int)) fun x12 =>
 zw (some x12.1)))
 (bno (F100 a0 x2.2) fun y13 =>
 lp (zdN F347 a0 y13) (([]:List Int),(0:Int)) fun x20 =>
 zw (some x20.1))) fun x21 =>
 ck (decide (List.length x2.1+List.length ([x21]:List (List Int))<=zA)) <|
 nxO (some (x2.1++([x21]:List (List Int)),wi (x2.2+(1:Int)))))
 (dnO (some (x2.1,x2.2)))
def zdM (x22:((List LI)×Int)) (x26:(LI×Bool×Int)) (x27:(LI×Bool×Int)):Option (LR (LI×Bool×Int) (LR (LI×Bool×Int) (LR (LI×Bool) (LR Int ((List LI)×Int×Int))))) :=
 bno (zm x27.1 x26.2.2) fun y28 =>
 ck (decide (0<=y28∧y28 < ((List.length x22.1:Nat):Int))) <|
 bno ((x22.1)[(Int.toNat y28)]?) fun y29 =>
 br (decide (x27.2.2 < ((List.length y29:Nat):Int)))
 (bno (zm x27.1 x26.2.2) fun y30 =>
 ck (decide (0<=y30∧y30 < ((List.length x22.1:Nat):Int))) <|
 bno ((x22.1)[(Int.toNat y30)]?) fun y31 =>
 bno (zm y31 x27.2.2) fun y32 =>
 bno (F348 x27.1 y32) fun y33 =>
 br (!y33)
 (bno (zm x27.1 x26.2.2) fun y34 =>
 ck (decide (0<=y34∧y34 < ((List.length x22.1:Nat):Int))) <|
 bno ((x22.1)[(Int.toNat y34)]?) fun y35 =>
 bno (zm y35 x27.2.2) fun y36 =>
 bno (F347 x27.1 y36) fun y37 =>
 dnO (some (y37,true,x27.2.2)))
 (nxO (some (x27.1,x27.2.1,wi (x27.2.2+(1:Int))))))
 (dnO (some (x27.1,x27.2.1,x27.2.2)))
def zfL (x22:((List LI)×Int)) (x26:(LI×Bool×Int)):Option (LR (LI×Bool×Int) (LR (LI×Bool) (LR Int ((List LI)×Int×Int)))) :=
 br (decide (x26.2.2 < ((List.length x26.1:Nat):Int)))
 (lp (zdM F347 F348 x22 x26) (x26.1,x26.2.1,(0:Int)) fun x38 =>
 nxO (some (x38.1,x38.2.1,wi (x26.2.2+(1:Int)))))
 (dnO (some (x26.1,x26.2.1,x26.2.2)))
def zb1 (x22:((List LI)×Int)) (x25:(LI×Bool)):Option (LR (LI×Bool) (LR Int ((List LI)×Int×Int))) :=
 br x25.2
 (lp (zfL F347 F348 x22) (x25.1,false,(0:Int)) fun x39 =>
 nxO (some (x39.1,x39.2.1)))
 (dnO (some (x25.1,x25.2)))
def zfK (x22:((List LI)×Int)) (x23:Int):Option (LR Int ((List LI)×Int×Int)) :=
 br (decide (x23 < ((List.length x22.1:Nat):Int)))
 (ck (decide (0<=x23∧x23 < ((List.length x22.1:Nat):Int))) <|
 bno ((x22.1)[(Int.toNat x23)]?) fun y24 =>
 lp (zb1 F347 F348 x22) (y24,true) fun x40 =>
 bno (F348 x40.1 x23) fun y41 =>
 br y41
 (jf (some (([]:List (List Int)),x23,(8:Int))))
 (nxO (some (wi (x23+(1:Int))))))
 (dnO (some x23))
def S321 (a0:Dim):Option ((List LI)×Int×Int) :=
 bno (F95 a0) fun y1 =>
 br (decide (¬ y1.2=(0:Int)))
 (some (([]:List (List Int)),y1.1,y1.2))
 (lp (zfM F100 F247 F347 F96 a0) (([]:List (List Int)),(0:Int)) fun x22 =>
 lp (zfK F347 F348 x22) (0:Int) fun x42 =>
 some (x22.1,(-1:Int),(0:Int)))
def P321:=S321 P100 P247 zeD zi5 P95 P96
def k321:CSpec:=⟨321,[(.st .dim)],(.tp [(.sl (.sl .int)),.int,.int]),fun x=>P321 x,false,[]⟩
theorem r321 {S:Seat} (h:Ok1 S 321 tf321):RtF S [k100,k247,k347,k348,k95,k96] (Rt S k321):=okr h rfl fun x=>by kernel_rfl
def tc319:TCode:=.seq (rg [oq 1 (.box 0),om 2 (ci 0),om 3 (ci 0),om 4 (ci 0)]) (.seq (rg [oq 13 (.load (some 1) 1),oq 14 (.call false [] 94 [13]),om 12 14,oq 15 (.ext 12 0),oq 16 (.ext 12 1),oq 17 (.ext 12 2),om 5 15,om 6 16,om 7 17]) (.seq (.seq (rg [om 18 7,oq 19 (.bin .int .neq 18 (ci 0))]) (.cond 19 (.seq (rg [om 20 5,om 21 6,om 22 7,om 2 20,om 3 21,om 4 22]) (.ret)) (.skip))) (.seq (.seq (rg [om 8 (ci 0)]) (.loop ⟨[.slot 8 .int],[9,10,11,23,24,25,26,27,28,29,30,31,32,33,34,35,36,37,38,39,40,41],[],[]⟩ 0 (.seq (.seq (rg [om 23 8,oq 24 (.fa 0 1),oq 25 (.load none 24),oq 26 (.len false 25),oq 27 (.bin .int .lss 23 26)]) (.cond 27 (.skip) (.exit 0))) (.seq (.block 1 (.seq (rg [oq 31 (.fa 0 1),oq 32 (.load none 31),om 33 8,oq 34 (.ia 3 32 33),oq 35 (.load (some 3) 34),oq 36 (.call true [] 321 [35]),om 30 36,oq 37 (.ext 30 0),oq 38 (.ext 30 1),oq 39 (.ext 30 2),om 9 37,om 10 38,om 11 39]) (.seq (rg [om 40 11,oq 41 (.bin .int .neq 40 (ci 0))]) (.cond 41 (.seq (rg [om 42 8,om 43 10,om 44 11,om 2 42,om 3 43,om 4 44]) (.ret)) (.skip))))) (rg [om 28 8,oq 29 (.bin .int .add 28 (ci 1)),om 8 29]))))) (.seq (rg [om 2 (ci (-1)),om 3 (ci (-1)),om 4 (ci 0)]) (.ret))))) 
def tf319:TFunc:=⟨1,45,[.tmp 2,.tmp 3,.tmp 4],false,tc319,[]⟩
def zfN (a0:LD) (x2:Int):Option (LR Int (Int×Int×Int)) :=
 br (decide (x2 < ((List.length a0:Nat):Int)))
 (bno (zm a0 x2) fun y3 =>
 bno (F321 y3) fun y4 =>
 br (decide (¬ y4.2.2=(0:Int)))
 (jf (some (x2,y4.2.1,y4.2.2)))
 (nxO (some (wi (x2+(1:Int))))))
 (dnO (some x2))
def S319 (a0:LD):Option (Int×Int×Int) :=
 bno (F94 a0) fun y1 =>
 br (decide (¬ y1.2.2=(0:Int)))
 (some (y1.1,y1.2.1,y1.2.2))
 (lp (zfN F321 a0) (0:Int) fun x5 =>
 some ((-1:Int),(-1:Int),(0:Int)))
def P319:=S319 P321 P94
def k319:CSpec:=⟨319,[(.st .outl)],(.tp [.int,.int,.int]),fun x=>P319 x,false,[]⟩
theorem r319 {S:Seat} (h:Ok1 S 319 tf319):RtF S [k321,k94] (Rt S k319):=okr h rfl fun x=>by kernel_rfl
def tc324:TCode:=.seq (rg [oq 1 (.box 0),om 2 (ci 0)]) (.seq (rg [oq 7 (.load (some 1) 1),oq 8 (.call false [] 319 [7]),om 6 8,oq 9 (.ext 6 0),oq 10 (.ext 6 1),oq 11 (.ext 6 2),om 3 9,om 4 10,om 5 11]) (.seq (rg [om 12 5,om 2 12]) (.ret))) 
def tf324:TFunc:=⟨1,13,[.tmp 2],false,tc324,[]⟩
def S324 (a0:LD):Option Int :=
 bno (F319 a0) fun y1 =>
 some y1.2.2
def P324:=S324 P319
def k324:CSpec:=⟨324,[(.st .outl)],.int,fun x=>P324 x,false,[]⟩
theorem r324 {S:Seat} (h:Ok1 S 324 tf324):RtF S [k319] (Rt S k324):=okr h rfl fun x=>by kernel_rfl
end
end
section
theorem P100_eq {d:Dim} (hl:d.members.length<=1000) (i:Int):P100 d i=some (partsOf d.members i):=by
 simp only[P100,S100,qx];rw[zgu (zgr d.members i) d.members.length (fun k acc hk ha => ?_) (fun acc=>by simp[zh1])]
 ·rfl
 ·have e:((k:Nat):Int) < ((d.members.length:Nat):Int):=by omega
  have hr:acc.length+1<=zA:=by unfold zA;omega
  simp only[zh1,e,decide_true,zn,zd,getElem?_eq_getElem hk,zl,zgr,length_singleton,zp hr,zD,qB];rw[qV (by omega) (by omega)];by_cases h:(d.members[k]).parent=i<;>simp[h]
theorem P102_eq {d:Dim} (hl:d.members.length<=1000) {k:Nat} (hk:k < d.members.length):P102 d k=some (wz d.members k):=by have e:decide (((List.length (partsOf d.members k):Nat):Int)=0)=decide (partsOf d.members k=[]):=(by congr 1;rw[← List.length_eq_zero_iff];exact propext ⟨fun h=>by omega,fun h=>by omega⟩);simp only[P102,S102,zd,getElem?_eq_getElem hk,zl,P100_eq hl,wz,e];by_cases h:(d.members[k]).formula=⟨#[]⟩<;>simp[h]
end
section
theorem ziB {l:List Int} {n:Int}:(zbv l n).length<=l.length+1∧(n ∉ l->(zbv l n).length=l.length+1):=by
 obtain ⟨w1,w2,w3⟩:=zif (fun a=>decide (a < n)) l;unfold zbv;generalize (l.takeWhile fun a=>decide (a < n)).length=k at *;simp only;by_cases hk:l[k]? = some n
 ·rw[if_pos hk];exact ⟨by omega,fun h=>absurd (mem_of_getElem? hk) h⟩
 ·rw[if_neg hk];simp only[List.length_append,length_take,length_drop,length_singleton];omega
theorem zfW (l:List Int) (n:Int) (h:l.length<=1000000):zeD l n=some (zbv l n):=by
 obtain ⟨t1,t2,t3⟩:=zif (fun a=>decide (a < n)) l;have hi:zbv l n=if l[(l.takeWhile fun a=>decide (a < n)).length]? = some n then l else l.take (l.takeWhile fun a=>decide (a < n)).length++[n]++l.drop (l.takeWhile fun a=>decide (a < n)).length:=rfl;rw[hi];generalize (l.takeWhile fun a=>decide (a < n)).length=k at *;have hs:=zR (B:=zdK l n) (fun i=>(i:Int)) k (fun i hi=>by
  have hx:=getElem?_eq_getElem (show i < l.length by omega);have hp:l[i] < n:=of_decide_eq_true (t1 _ (mem_of_getElem? (i:=i) (by rw[List.getElem?_take,if_pos hi,hx])));have e4:wi ((i:Int)+1)=((i+1:Nat):Int):=by rw[qV (by omega) (by omega)];omega
  simp only[zdK];rw[zj,if_pos (by omega)];simp only[zd,hx,zl,zD,qG];rw[zj,if_pos hp,e4]
  rfl)
 have hend:lpO (zdK l n) (0:Int)=some (.inl (k:Int)):=by
  rw[show (0:Int)=((0:Nat):Int) from rfl,hs];refine zS ?_;simp only[zdK];by_cases hk:k < l.length
  ·have hx:=getElem?_eq_getElem hk;have hp:¬ l[k] < n:=of_decide_eq_false (t2 _ hx);rw[zj,if_pos (by omega)];simp only[zd,hx,zl,zD,qG];rw[zj,if_neg hp];rfl
  ·rw[zj,if_neg (by omega)];rfl
 simp only[zeD,S347,qx,hend,qG]
 have tail:∀ (hk:k<=l.length),(ck (decide (0<=(0:Int)∧(0:Int)<=(k:Int)∧(k:Int)<=((List.length l:Nat):Int))) <|
   ck (decide (List.length (List.take (Int.toNat (k:Int) - Int.toNat (0:Int)) (List.drop (Int.toNat (0:Int)) l))<=zA)) <|
   ck (decide (List.length (List.take (Int.toNat (k:Int) - Int.toNat (0:Int)) (List.drop (Int.toNat (0:Int)) l))+List.length ([n]:List Int)<=zA)) <|
   ck (decide (0<=(k:Int)∧(k:Int)<=((List.length l:Nat):Int)∧((List.length l:Nat):Int)<=((List.length l:Nat):Int))) <|
   ck (decide (List.length ((List.take (Int.toNat (k:Int) - Int.toNat (0:Int)) (List.drop (Int.toNat (0:Int)) l))++([n]:List Int))+List.length (List.take (Int.toNat ((List.length l:Nat):Int) - Int.toNat (k:Int)) (List.drop (Int.toNat (k:Int)) l))<=zA)) <|
   some (((List.take (Int.toNat (k:Int) - Int.toNat (0:Int)) (List.drop (Int.toNat (0:Int)) l))++([n]:List Int))++(List.take (Int.toNat ((List.length l:Nat):Int) - Int.toNat (k:Int)) (List.drop (Int.toNat (k:Int)) l))))=some (l.take k++[n]++l.drop k):=by
  intro hk;have e0:Int.toNat (0:Int)=0:=rfl;rw[e0,toNat_natCast,toNat_natCast,List.drop_zero,Nat.sub_zero,List.take_of_length_le (show (l.drop k).length<=l.length - k by rw[length_drop];exact Nat.le_refl _)];rw[zp (by omega),zp (by rw[length_take];unfold zA;omega),zp (by rw[length_take,length_singleton];unfold zA;omega),zp (by omega),zp (by rw[List.length_append,length_take,length_singleton,length_drop];unfold zA;omega)]
 rw[tail t3];by_cases hk:k < l.length
 ·have hx:=getElem?_eq_getElem hk;rw[zj,if_pos (by omega)];simp only[zd,hx,zl,zD,qG];rw[zj];by_cases e:l[k]=n
  ·rw[if_pos e,if_pos (by rw[e])]
  ·rw[if_neg e,if_neg (fun h=>e (Option.some.inj h))]
 ·rw[zj,if_neg (by omega)];simp only[zD,qG,zk];rw[if_neg (by rw[List.getElem?_eq_none (by omega)];simp)]
theorem P348_eq (l:List Int) (n:Int) (h:l.length<=9223372036854775807):zi5 l n=some (zdV l n):=by
 simp only[zi5,S348];have h1:=wq (B:=zfu l n) (fun y=>decide (y=n)) l true false (fun i y hy=>by
  have hi:=(List.getElem?_eq_some_iff.1 hy).1;simp only[zfu];rw[zj,if_pos (by omega)];simp only[zd,hy,zl];rw[qV (by omega) (by omega),zj];by_cases c:y=n<;>simp[c]) (by
  simp only[zfu];rw[zj,if_neg (by omega)]
  rfl)
 rw[h1];unfold zdV;cases (l.any fun y=>decide (y=n))<;>rfl
section
variable {n:List (List Int)}
structure Bel (n:List (List Int)) (i:Nat) (A:List Int):Prop where
 up:A.Pairwise (· < ·)
 rng:∀ x∈A,0<=x∧x < n.length
 re:∀ x∈A,Reach n i x.toNat
 one:∀ x∈n.getD i [],x∈A
theorem zfl {i:Nat} {A:List Int} (h:Bel n i A):A.length<=n.length:=by
 have h1:(A.map Int.toNat).Nodup:=(by rw[List.Nodup,List.pairwise_map];refine List.Pairwise.imp_of_mem ?_ h.up;intro a b ha hb hab;have:=h.rng a ha;have:=h.rng b hb;omega);have:=yP _ (List.range n.length) h1 (fun x hx=>by
  obtain ⟨y,hy,rfl⟩:=mem_map.1 hx;have:=h.rng y hy;exact mem_range.2 (by omega))
 rwa [length_map,length_range] at this
theorem bel_ins (hr:Rng n) {i:Nat} {A:List Int} (h:Bel n i A) {x y:Int} (hx:x∈A) (hy:y∈n.getD x.toNat []):Bel n i (zbv A y):=by
 obtain ⟨k1,k2⟩:=insI_ok (n:=y) h.up;have hry:=hr x.toNat y hy;refine ⟨k1,fun z hz => ?_,fun z hz => ?_,fun z hz=>(k2 z).2 (.inl (h.one z hz))⟩
 ·rcases (k2 z).1 hz with hz | rfl
  ·exact h.rng z hz
  ·exact hry
 ·rcases (k2 z).1 hz with hz | rfl
  ·exact h.re z hz
  ·exact (h.re x hx).snoc (mem_map.2 ⟨_,hy,rfl⟩)
theorem inner4 (hr:Rng n) (hw:∀ k,(n.getD k []).length<=1000) (hn:n.length<=1000) {z:Int} {i:Nat} {A:List Int} (h:Bel n i A) (ag:Bool) {k:Nat} (hk:k < A.length) :
  ∃ r,lpO (zdM zeD zi5 (n,z) (A,ag,(k:Int))) (A,ag,(0:Int))=some r∧∃ j,(r=.inl (A,ag,j)∧∀ y∈n.getD (A[k]).toNat [],y∈A)∨∃ y,r=.inl (zbv A y,true,j)∧y∈n.getD (A[k]).toNat []∧y ∉ A:=by
 have hkm:=h.rng _ (getElem_mem hk);have hx:=getElem?_eq_getElem hk;have hlt:(A[k]).toNat < n.length:=by omega
 have hg:n[(A[k]).toNat]? = some (n.getD (A[k]).toNat []):=by rw[List.getD_eq_getElem?_getD,getElem?_eq_getElem hlt];rfl
 have hwk:=hw (A[k]).toNat;have hal:=zfl h;generalize hrow:n.getD (A[k]).toNat []=row at *
 have:=zeV (B:=zdM zeD zi5 (n,z) (A,ag,(k:Int))) (fun x=>x.1=A∧x.2.1=ag∧∃ j:Nat,x.2.2=j∧j<=row.length∧∀ y∈row.take j,y∈A) (fun x=>row.length - x.2.2.toNat)
  (fun r=>∃ j,(r=.inl (A,ag,j)∧∀ y∈row,y∈A)∨∃ y,r=.inl (zbv A y,true,j)∧y∈row∧y ∉ A) (fun x hI=>by
   obtain ⟨x1,x2,x3⟩:=x;obtain ⟨hA1,hA2,j,hj0,hj,hin⟩:=hI;simp only at hA1 hA2 hj0 hin;subst hA1 hA2 hj0;simp only
   have hB:zdM zeD zi5 (n,z) (x1,x2,(k:Int)) (x1,x2,(j:Int))=(match row[j]? with
     | some y=>if zdV x1 y=true then some (.nx (x1,x2,((j+1:Nat):Int))) else some (.dn (zbv x1 y,true,(j:Int)))
     | none=>some (.dn (x1,x2,(j:Int)))):=by
    simp only[zdM,zd,hx,zl];rw[zp ⟨hkm.1,hkm.2⟩,hg];simp only[zl];by_cases c:j < row.length
    ·have hy:=getElem?_eq_getElem c;rw[zj,if_pos (by omega),zp ⟨hkm.1,hkm.2⟩,hy];simp only[zl,P348_eq x1 _ (show x1.length<=9223372036854775807 by omega),zfW x1 _ (show x1.length<=1000000 by omega)];rw[zp ⟨hkm.1,hkm.2⟩];have e4:wi ((j:Int)+1)=((j+1:Nat):Int):=by rw[qV (by omega) (by omega)];omega
     rw[e4];cases zdV x1 row[j]<;>rfl
    ·rw[zj,if_neg (by omega),List.getElem?_eq_none (by omega)];rfl
   rw[hB];cases hy:row[j]? with
   | none =>simp only;have:=List.getElem?_eq_none_iff.1 hy;exact ⟨_,.inl ⟨rfl,fun y hy=>hin y (by rw[List.take_of_length_le this];exact hy)⟩⟩
   | some y =>
    have hjl:=(List.getElem?_eq_some_iff.1 hy).1;by_cases c:zdV x1 y=true
    ·simp only[if_pos c];refine ⟨⟨trivial,trivial,j+1,rfl,by omega,fun y' hy' => ?_⟩,by rw[toNat_natCast,toNat_natCast];omega⟩;rw[take_add_one,hy] at hy';rcases List.mem_append.1 hy' with hy' | hy'
     ·exact hin y' hy'
     ·simp at hy';subst hy';exact zbj.1 c
    ·simp only[if_neg c];exact ⟨_,.inr ⟨y,rfl,mem_of_getElem? hy,fun h=>c (zbj.2 h)⟩⟩) (A,ag,(0:Int)) ⟨rfl,rfl,0,rfl,by omega,by simp⟩
 exact this
theorem inner5 (hr:Rng n) (hw:∀ k,(n.getD k []).length<=1000) (hn:n.length<=1000) {z:Int} {i:Nat} {A:List Int} (h:Bel n i A) :
  ∃ r,lpO (zfL zeD zi5 (n,z)) (A,false,(0:Int))=some r∧∃ A' ag j,r=.inl (A',ag,j)∧Bel n i A'∧(ag=false->∀ x∈A',∀ y∈n.getD x.toNat [],y∈A')∧(ag=true->A.length < A'.length)∧A.length<=A'.length:=by
 refine zeV (B:=zfL zeD zi5 (n,z)) (fun x=>Bel n i x.1∧(∃ k:Nat,x.2.2=k∧k<=x.1.length∧(x.2.1=false->∀ c∈x.1.take k,∀ y∈n.getD c.toNat [],y∈x.1))∧(x.2.1=true->A.length < x.1.length)∧A.length<=x.1.length) (fun x=>n.length - x.2.2.toNat)
  (fun r=>∃ A' ag j,r=.inl (A',ag,j)∧Bel n i A'∧(ag=false->∀ x∈A',∀ y∈n.getD x.toNat [],y∈A')∧(ag=true->A.length < A'.length)∧A.length<=A'.length) (fun x hI => ?_) (A,false,(0:Int)) ⟨h,⟨0,rfl,by omega,by simp⟩,by simp,Nat.le_refl _⟩
 obtain ⟨B,ag,k'⟩:=x;obtain ⟨hB,⟨k,hk',hk,hcl⟩,hgr,hge⟩:=hI;simp only at hB hk' hk hcl hgr hge;subst hk';have hbl:=zfl hB;simp only[zfL];by_cases c:k < B.length
 ·obtain ⟨r,e1,j,e2⟩:=inner4 hr hw hn (z:=z) hB ag c;have e4:wi ((k:Int)+1)=((k+1:Nat):Int):=by rw[qV (by omega) (by omega)];omega
  rw[zj,if_pos (by omega),qx,e1];rcases e2 with ⟨rfl,e3⟩ | ⟨y,rfl,e3,e5⟩
  ·simp only[qG,qB,e4];refine ⟨⟨hB,⟨k+1,rfl,by omega,fun hag x hx y hy => ?_⟩,hgr,hge⟩,by rw[toNat_natCast,toNat_natCast];omega⟩;rw[take_add_one,getElem?_eq_getElem c] at hx;rcases List.mem_append.1 hx with hx | hx
   ·exact hcl hag x hx y hy
   ·simp at hx;subst hx;exact e3 y hy
  ·simp only[qG,qB,e4];have hl:=(ziB (l:=B) (n:=y)).2 e5;exact ⟨⟨bel_ins hr hB (getElem_mem c) e3,⟨k+1,rfl,by omega,by simp⟩,fun _=>by omega,by omega⟩,by rw[toNat_natCast,toNat_natCast];omega⟩
 ·rw[zj,if_neg (by omega)];simp only[dnO_s];refine ⟨B,ag,_,rfl,hB,fun hag x hx=>hcl hag x (by rw[List.take_of_length_le (by omega)];exact hx),hgr,hge⟩
theorem inner6 (hr:Rng n) (hw:∀ k,(n.getD k []).length<=1000) (hn:n.length<=1000) {z:Int} {i:Nat} {A:List Int} (h:Bel n i A) :
  ∃ r,lpO (zb1 zeD zi5 (n,z)) (A,true)=some r∧∃ A',r=.inl (A',false)∧Bel n i A'∧∀ x∈A',∀ y∈n.getD x.toNat [],y∈A':=by
 refine zeV (B:=zb1 zeD zi5 (n,z)) (fun x=>Bel n i x.1∧(x.2=false->∀ c∈x.1,∀ y∈n.getD c.toNat [],y∈x.1)) (fun x=>2 * (n.length - x.1.length)+(if x.2=true then 1 else 0))
  (fun r=>∃ A',r=.inl (A',false)∧Bel n i A'∧∀ x∈A',∀ y∈n.getD x.toNat [],y∈A') (fun x hI => ?_) (A,true) ⟨h,by simp⟩
 obtain ⟨B,ag⟩:=x;obtain ⟨hB,hcl⟩:=hI;simp only at hB hcl;cases ag with
 | false =>simp only[zb1,zk,dnO_s];exact ⟨B,rfl,hB,hcl rfl⟩
 | true =>
  obtain ⟨r,e1,A',ag',j,rfl,e3,e4,e5,e6⟩:=inner5 hr hw hn (z:=z) hB;simp only[zb1,zn,qx];rw[e1];simp only[qG,qB];have hl:=zfl e3;refine ⟨⟨e3,e4⟩, ?_⟩;cases ag' with
  | false=>simp only[Bool.false_eq_true,if_false,if_true];omega
  | true =>have:=e5 rfl;simp only[if_true];omega
theorem ring_doc (hr:Rng n) (hw:∀ k,(n.getD k []).length<=1000) (hn:n.length<=1000) {z:Int} {i:Nat} (hup:(n.getD i []).Pairwise (· < ·)) :
  ∃ A',lpO (zb1 zeD zi5 (n,z)) (n.getD i [],true)=some (.inl (A',false))∧zi5 A' (i:Int)=some (decide (zco n i=some true)):=by
 obtain ⟨r,e1,A',rfl,e3,e4⟩:=inner6 hr hw hn (z:=z) (i:=i) (A:=n.getD i []) ⟨hup,hr i,fun x hx=>.one (mem_map.2 ⟨x,hx,rfl⟩),fun x hx=>hx⟩;refine ⟨A',e1, ?_⟩;have hl:=zfl e3;rw[P348_eq A' _ (by omega)];congr 1;have:zdV A' (i:Int)=true↔zco n i=some true:=by
  rw[zbj,selfN_iff hr];constructor
  ·intro h;have:=e3.re _ h
   rwa [toNat_natCast] at this
  ·intro h;have key:=wM (S:=fun j=>((j:Nat):Int)∈A') (n:=n) (fun j hj k hk=>by
    obtain ⟨x,hx,rfl⟩:=mem_map.1 hk;have h0:=(hr j x hx).1;rw[show ((x.toNat:Nat):Int)=x by omega];exact e4 _ hj x (by rw[toNat_natCast];exact hx)) h
   exact key fun k hk=>(by obtain ⟨x,hx,rfl⟩:=mem_map.1 hk;have h0:=(hr i x hx).1;rw[show ((x.toNat:Nat):Int)=x by omega];exact e3.one x hx)
 cases hb:zdV A' (i:Int) with
 | true=>rw[decide_eq_true (this.1 hb)]
 | false=>rw[decide_eq_false fun h=>by rw[this.2 h] at hb;cases hb]
end
theorem zbk:∀ (l acc:List Int),(l.foldl zbv acc).length<=acc.length+l.length
 | [],acc=>by simp
 | a :: r,acc=>by
  have h1:=zbk r (zbv acc a);have h2:=(ziB (l:=acc) (n:=a)).1;simp only[List.foldl_cons,List.length_cons];omega
section
variable {d:Dim}
theorem ze5 {l:List Int}:zdV (zdZ l) (-1)=true↔(-1:Int)∈l:=by rw[zbj];exact (jB l).2 (-1)
def refG {γ:Type} (d:Dim) (l:List Node) (e:γ) (j:Nat):Option γ:=match l[j]? with
 | some x=>if x.op=2∧ql d.members x.name < 0 then some e else none
 | none=>none
theorem refG_find {γ:Type} (l:List Node) (e:γ):(List.range l.length).findSome? (refG d l e)=if zdV (zdZ ((zbt l).map (ql d.members))) (-1)=true then some e else none:=by
 cases hf:(List.range l.length).findSome? (refG d l e) with
 | some r =>
  obtain ⟨j,_,hj⟩:=List.exists_of_findSome?_eq_some hf;unfold refG at hj;split at hj
  ·rename_i x hx;split at hj
   ·rename_i c;have hm:zdV (zdZ ((zbt l).map (ql d.members))) (-1)=true:=(by rw[ze5];refine mem_map.2 ⟨x.name,mem_map.2 ⟨x,mem_filter.2 ⟨mem_of_getElem? hx,by simpa using c.1⟩,rfl⟩, ?_⟩;have:=zb6 d.members x.name;omega);rw[if_pos hm,hj]
   ·cases hj
  ·cases hj
 | none =>have hnone:=List.findSome?_eq_none_iff.1 hf;have hm:¬ zdV (zdZ ((zbt l).map (ql d.members))) (-1)=true:=(by rw[ze5];intro hm;obtain ⟨s,hs,hw⟩:=mem_map.1 hm;obtain ⟨x,hx,rfl⟩:=mem_map.1 hs;obtain ⟨hx1,hx2⟩:=mem_filter.1 hx;obtain ⟨j,hj⟩:=List.getElem?_of_mem hx1;have:=hnone j (mem_range.2 (List.getElem?_eq_some_iff.1 hj).1);unfold refG at this;rw[hj] at this;simp only at this;rw[if_pos ⟨by simpa using hx2,by omega⟩] at this;cases this);rw[if_neg hm]
theorem refs_doc (hl:d.members.length<=1000) {l:List Node} (h30:l.length<=1000) (x2:List (List Int)×Int) (y5:List Node×Int×Int) (hy:y5.1=l) :
  lpO (zdO zeD P96 d x2 y5) (([]:List Int),(0:Int))=some (if zdV (zdZ ((zbt l).map (ql d.members))) (-1)=true then .inr (.inr (.fin (([]:List (List Int)),x2.2,(5:Int)))) else .inl (zdZ ((zbt l).map (ql d.members)),(l.length:Int))):=by
 have hs:=qN (B:=zdO zeD P96 d x2 y5) (fun j=>(((zbt (l.take j)).map (ql d.members)).foldl zbv [],(j:Int))) l.length
  (refG d l (Sum.inr (LR.fin (([]:List (List Int)),x2.2,(5:Int)))))
  (d:=(zdZ ((zbt l).map (ql d.members)),(l.length:Int))) (fun j hj _=>by
   have hx:=getElem?_eq_getElem hj;have e4:wi ((j:Int)+1)=((j+1:Nat):Int):=by rw[qV (by omega) (by omega)];omega
   have hb:(((zbt (l.take j)).map (ql d.members)).foldl zbv []).length<=1000:=(by refine le_trans (zbk _ _) ?_;have:=zcy (l.take j);rw[length_take] at this;rw[length_map];simp only[List.length_nil];omega);unfold refG;simp only[zdO,hy];rw[zj,if_pos (by omega),hx];simp only[zd,hx,zl];rw[zay hx,zj];by_cases c:l[j].op=2
   ·rw[if_neg (fun h=>h c),if_pos c,P96_eq d _ (by omega)];simp only[zl];rw[zj];by_cases c2:ql d.members l[j].name < 0
    ·rw[if_pos c2,if_pos ⟨c,c2⟩];rfl
    ·rw[if_neg c2,if_neg (fun h=>c2 h.2),zfW _ _ (by omega)];simp only[zl,zD,qG,qB,e4,map_append,List.foldl_append];rfl
   ·rw[if_pos c,if_neg c,if_neg (fun h=>c h.1)];simp only[zD,qG,qB,e4,List.append_nil]) (fun _=>by
   simp only[zdO,hy];rw[zj,if_neg (by omega),List.take_length,zgB]
   rfl)
 have e0:(([]:List Int),(0:Int))=(((zbt (l.take 0)).map (ql d.members)).foldl zbv [],((0:Nat):Int)):=rfl;rw[e0,hs,refG_find];by_cases c:zdV (zdZ ((zbt l).map (ql d.members))) (-1)=true
 ·rw[if_pos c,if_pos c]
 ·rw[if_neg c,if_neg c]
theorem parts_doc (hl:d.members.length<=1000) (ps:List Int) (hp:∀ x∈ps,∃ k:Nat,x=k∧k < d.members.length) (hn:ps.length<=1000) :
  lpO (zdN zeD d ps) (([]:List Int),(0:Int))=some (.inl (zdZ (ps.filter (fun k=>decide (¬ sgn d.members k=0))),(ps.length:Int))):=by
 have hs:=zR (B:=zdN zeD d ps) (fun j=>(((ps.take j).filter (fun k=>decide (¬ sgn d.members k=0))).foldl zbv [],(j:Int))) ps.length (fun j hj=>by
   have hx:=getElem?_eq_getElem hj;obtain ⟨k,hk,hkm⟩:=hp _ (getElem_mem hj);have e4:wi ((j:Int)+1)=((j+1:Nat):Int):=by rw[qV (by omega) (by omega)];omega
   have hb:(((ps.take j).filter (fun k=>decide (¬ sgn d.members k=0))).foldl zbv []).length<=1000:=(by refine le_trans (zbk _ _) ?_;have:=List.length_filter_le (fun k=>decide (¬ sgn d.members k=0)) (ps.take j);rw[length_take] at this;simp only[List.length_nil];omega);have hg:=getElem?_eq_getElem hkm;have hsg:sgn d.members ps[j]=(d.members[k]).sign:=by unfold sgn;rw[hk,toNat_natCast,hg]
   have htk:ps.take (j+1)=ps.take j++[ps[j]]:=by rw[take_add_one,hx];rfl
   simp only[zdN];rw[zj,if_pos (by omega)];simp only[zd,hx,zl];rw[hk,zd,hg];simp only[zl];rw[zj,htk,List.filter_append];by_cases c:(d.members[k]).sign=0
   ·rw[if_neg (fun h=>h c)];simp only[zD,qG,qB,e4];rw[show List.filter (fun k=>decide (¬ sgn d.members k=0)) [ps[j]]=[] by rw[List.filter_cons_of_neg (by rw[hsg,c];decide)];rfl,List.append_nil]
   ·rw[if_pos c,zfW _ _ (by omega)];simp only[zl,zD,qG,qB,e4];rw[show List.filter (fun k=>decide (¬ sgn d.members k=0)) [ps[j]]=[ps[j]] by rw[List.filter_cons_of_pos (by rw[hsg];exact decide_eq_true c)];rfl,List.foldl_append,hk]
    rfl)
 have e0:(([]:List Int),(0:Int))=(((ps.take 0).filter (fun k=>decide (¬ sgn d.members k=0))).foldl zbv [],((0:Nat):Int)):=rfl;rw[e0,hs,List.take_length,zgB];refine zS ?_;simp only[zdN];rw[zj,if_neg (by omega)];rfl
theorem allN_up (d:Dim) (i:Nat):((jo d).getD i []).Pairwise (· < ·):=by
 unfold jo;simp only[List.getD_eq_getElem?_getD,List.getElem?_map];by_cases hi:i < d.members.length
 ·rw[List.getElem?_range hi];exact (jB _).1
 ·rw[List.getElem?_eq_none (by rw[length_range];omega)];exact List.Pairwise.nil
theorem P321_eq (d:Dim):P321 d=some (if (qY d).2=0 then jo d else [],(qY d).1,(qY d).2):=by
 simp only[P321,S321,P95_eq,zl];rw[zj];by_cases h0:(zJ d).2=0
 ·have ok:=zgM.1 h0;obtain ⟨hl0,hl⟩:=ok.len;rw[if_neg (fun h=>h h0),show qY d=zcT d from if_neg (fun h=>h h0)];unfold zcT;have L1:=qN (B:=zfM P100 P247 zeD P96 d) (fun i=>((List.range i).map (qC d),(i:Int))) d.members.length (fun i=>((zcB d i).map fun e=>((i:Int),e)).map fun r=>(([]:List (List Int)),r.1,r.2)) (d:=(jo d,(d.members.length:Int))) (fun i hi hg=>by
   have hx:=getElem?_eq_getElem hi;have e4:wi ((i:Int)+1)=((i+1:Nat):Int):=by rw[qV (by omega) (by omega)];omega
   have hroom:(List.length ((List.range i).map (qC d))+1<=zA):=by rw[length_map,length_range];unfold zA;omega
   simp only[zfM];rw[zj,if_pos (by omega)];simp only[zd,hx,zl];rw[zj];by_cases c:(d.members[i]).formula=⟨#[]⟩
   ·rw[if_neg (fun h=>h c),P100_eq (by omega)];have hneed:qC d i=zdZ (cntP2 d i):=by unfold qC rawN;rw[hx];simp only;rw[if_pos c]
    have hm:zcB d i=none:=(by unfold zcB;rw[hx];simp only;rw[if_neg (fun h=>h.1 c),if_neg];rw[hneed,ze5];intro h;obtain ⟨k,e,_⟩:=zcz (mem_filter.1 h).1;omega);simp only[zl];rw[qx,parts_doc (by omega) _ (fun x hx=>zcz hx) (le_trans (zcF _ _) (by omega)),hm];simp only[qG,zD,map_none];rw[show zdZ (List.filter (fun k=>decide (¬ sgn d.members k=0)) (partsOf d.members i))=qC d i from hneed.symm,zp (by simp only[length_singleton];exact hroom),e4,List.range_succ,map_append];rfl
   ·rw[if_pos c,P247_eq];simp only[zl];rw[zj];by_cases c2:(rdT (d.members[i]).formula).2.2=0
    ·have hneed:qC d i=zdZ ((zbt (rdT (d.members[i]).formula).1).map (ql d.members)):=by unfold qC rawN;rw[hx];simp only;rw[if_neg c]
     have hm:zcB d i=if zdV (qC d i) (-1)=true then some 5 else none:=by unfold zcB;rw[hx];simp only;rw[if_neg (fun h=>h.2 c2)]
     rw[if_neg (fun h=>h c2),qx,refs_doc (by omega) (le_trans (zhj _) (by omega)) _ _ rfl,hm,← hneed];by_cases c3:zdV (qC d i) (-1)=true
     ·rw[if_pos c3,if_pos c3];rfl
     ·rw[if_neg c3,if_neg c3];simp only[qG,zD,map_none];rw[zp (by simp only[length_singleton];exact hroom),e4,List.range_succ,map_append];rfl
    ·have hm:zcB d i=some (rdT (d.members[i]).formula).2.2:=by unfold zcB;rw[hx];simp only;rw[if_pos ⟨c,c2⟩]
     rw[if_pos c2,hm]
     rfl) (fun _=>by
   simp only[zfM];rw[zj,if_neg (by omega)]
   rfl)
  have e0:(([]:List (List Int)),(0:Int))=((List.range 0).map (qC d),((0:Nat):Int)):=rfl;rw[qx,e0,L1,z8];cases hs:(List.range d.members.length).findSome? (fun i=>(zcB d i).map fun e=>((i:Int),e)) with
  | some r =>have hr:r.2≠0:=(by obtain ⟨i,_,hi⟩:=List.exists_of_findSome?_eq_some hs;obtain ⟨e,he,rfl⟩:=Option.map_eq_some_iff.1 hi;exact zho he);simp only[map_some,jn_r,if_neg hr]
  | none =>
   have hnone:∀ i,i < d.members.length->zcB d i=none:=fun i hi=>(by have:=List.findSome?_eq_none_iff.1 hs i (mem_range.2 hi);simpa using this);have hrng:=zfr hnone;simp only[map_none,qG];have L2:=qN (B:=zfK zeD zi5 (jo d,(d.members.length:Int))) (fun i=>(i:Int)) d.members.length (fun i=>((zcp d i).map fun e=>((i:Int),e)).map fun r=>(([]:List (List Int)),r.1,r.2)) (d:=((d.members.length:Nat):Int)) (fun i hi hg=>by
    have e4:wi ((i:Int)+1)=((i+1:Nat):Int):=by rw[qV (by omega) (by omega)];omega
    have hil:i < (jo d).length:=by rw[zas];exact hi
    obtain ⟨A',e1,e2⟩:=ring_doc hrng (allN_w hl) (by rw[zas];omega) (z:=(d.members.length:Int)) (allN_up d i);have hgi:(jo d)[i]? = some ((jo d).getD i []):=by rw[List.getD_eq_getElem?_getD,getElem?_eq_getElem hil];rfl
    simp only[zfK];rw[zj,if_pos (by omega),zp ⟨by omega,by omega⟩,toNat_natCast,hgi];simp only[zl];rw[qx,e1];simp only[qG];rw[e2];simp only[zl];unfold zcp;rw[zj];by_cases c:zco (jo d) i=some true
    ·rw[if_pos c,if_pos c];rfl
    ·rw[if_neg c,if_neg c];simp only[qB,e4,map_none]) (fun _=>by
    simp only[zfK];rw[zj,if_neg (by rw[zas];omega)]
    rfl)
   rw[qx,show (0:Int)=((0:Nat):Int) from rfl,L2,z8];cases hs2:(List.range d.members.length).findSome? (fun i=>(zcp d i).map fun e=>((i:Int),e)) with
   | some r =>
    have hr:r.2≠0:=by
     obtain ⟨i,_,hi⟩:=List.exists_of_findSome?_eq_some hs2;obtain ⟨e,he,rfl⟩:=Option.map_eq_some_iff.1 hi;unfold zcp at he;split at he
     ·cases he;show (8:Int)≠0;decide
     ·cases he
    simp only[map_some,jn_r];rw[if_neg (show ¬ r.2=((0:Nat):Int) from hr)]
   | none=>rfl
 ·rw[if_pos h0,show qY d=zJ d from if_pos h0,if_neg h0]
end
end
section
section
variable {n:List (List Int)} (hr:Rng n) (hn:n.length<=100000) (hw:∀ i,(n.getD i []).length<=100000)
include hr hn hw
end
def zbD (o:List Dim) (i:Nat):Option (Int×Int×Int):=match o[i]? with
 | some d=>if ¬ (qY d).2=0 then some ((i:Int),(qY d).1,(qY d).2) else none
 | none=>none
def zbr (o:List Dim):Int×Int×Int:=if ¬ (yq o).2.2=0 then yq o else match (List.range o.length).findSome? (zbD o) with
 | some r=>r
 | none=>(-1, -1,0)
theorem zij {o:List Dim} {i:Nat} {r:Int×Int×Int} (h:zbD o i=some r):¬ r.2.2=0:=by
 unfold zbD at h;split at h
 ·split at h
  ·rename_i c;cases h;exact c
  ·cases h
 ·cases h
theorem P319_eq (o:List Dim):P319 o=some (zbr o):=by
 simp only[P319,S319,P94_eq,zl];rw[zj];unfold zbr;by_cases h0:(yq o).2.2=0
 ·obtain ok:=ziq.1 h0;have hl:=ok.len;rw[if_neg (fun h=>h h0),if_neg (fun h=>h h0)];have L:=yN (B:=zfN P321 o) o.length (zbD o) (fun i hi=>by
   have hx:=getElem?_eq_getElem hi;simp only[zfN];rw[zj,if_pos (by omega)];simp only[zd,hx,zl,P321_eq];unfold zbD;rw[hx,zj];simp only;rw[qV (by omega) (by omega)];by_cases c:(qY o[i]).2=0
   ·rw[if_neg (fun h=>h c),if_neg (fun h=>h c)];rfl
   ·rw[if_pos c,if_pos c]
    rfl) (by
   simp only[zfN];rw[zj,if_neg (by omega)]
   rfl)
  rw[qx,L];cases (List.range o.length).findSome? (zbD o)<;>rfl
 ·rw[if_pos h0,if_pos h0]
theorem P324_eq (o:List Dim):P324 o=some (zbr o).2.2:=by simp only[P324,S324,P319_eq,zl]
end
section
def nvN (s:ByteArray) (a:Nat):Nat->Nat
 | 0=>0
 | k+1=>nvN s a k * 10+(pk s (a+k) - 48)
theorem zir {s:ByteArray} {a:Nat}:∀ (k:Nat),(∀ j,j < k->dgB (pk s (a+j))=true)->nvN s a k < 10 ^ k
 | 0,_=>by show 0 < 1;decide
 | k+1,h=>by
  have h1:=zir k fun j hj=>h j (by omega);have h2:=h k (by omega);simp only[dgB,Bool.and_eq_true,decide_eq_true_eq] at h2;simp only[nvN,Nat.pow_succ];omega
theorem zic:∀ (ds:List UInt8) (acc k:Nat) (c:UInt8),(∀ c∈ds,48<=c.toNat∧c.toNat<=57)->48<=c.toNat∧c.toNat<=57->acc < 10 ^ k->k+ds.length+1<=15->∀ u,Lib.parseUint10 acc ds=.ok u->Lib.parseUint10 acc (ds++[c])=.ok (u * 10+(c.toNat - 48))
 | [],acc,k,c,_,hc,ha,hl,u,h=>by
  have hp:(10:Nat) ^ k<=10 ^ 15:=Nat.pow_le_pow_right (by decide) (by simp at hl;omega);have hq:(10:Nat) ^ 15=1000000000000000:=by decide
  simp only[Lib.parseUint10] at h;injection h with h;subst h;simp only[List.nil_append,Lib.parseUint10];rw[if_pos hc,if_neg (by omega),if_neg (by omega)]
 | d :: r,acc,k,c,hd,hc,ha,hl,u,h=>by
  obtain ⟨d1,d2⟩:=hd d (by simp);simp only[List.length_cons] at hl;have hp:(10:Nat) ^ k<=10 ^ 15:=Nat.pow_le_pow_right (by decide) (by omega);have hs:(10:Nat) ^ (k+1)=10 ^ k * 10:=Nat.pow_succ ..;have hq:(10:Nat) ^ 15=1000000000000000:=by decide
  simp only[List.cons_append,Lib.parseUint10] at h ⊢;rw[if_pos ⟨d1,d2⟩,if_neg (by omega),if_neg (by omega)] at h ⊢;exact zic r _ (k+1) c (fun c hc=>hd c (List.mem_cons_of_mem _ hc)) hc (by omega) (by omega) u h
theorem nv_uint {s:ByteArray} {a:Nat}:∀ (k:Nat),k<=14->(∀ j,j < k->dgB (pk s (a+j))=true)->Lib.parseUint10 0 (s.extract a (a+k)).data.toList=.ok (nvN s a k)
 | 0,_,_=>by
  rw[wn];simp[Lib.parseUint10,nvN]
 | k+1,hk,h=>by
  have ih:=nv_uint k (by omega) fun j hj=>h j (by omega);have hg:=h k (by omega);have hlt:=zcu hg;obtain ⟨p1,p2⟩:=zbG hlt;have e:(s.extract a (a+(k+1))).data.toList=(s.extract a (a+k)).data.toList++[s.data[a+k]'hlt]:=(by rw[wn,wn,show a+(k+1) - a=k+1 by omega,show a+k - a=k by omega,take_add_one,List.getElem?_drop,Array.getElem?_toList,p1];rfl);have hdig:∀ c∈(s.extract a (a+k)).data.toList,48<=c.toNat∧c.toNat<=57:=fun c hc=>(by rw[wn,show a+k - a=k by omega] at hc;obtain ⟨j,hj,rfl⟩:=List.getElem_of_mem hc;have hj':j < k:=(by rw[length_take] at hj;omega);have hd:=h j (by omega);have hjl:=zcu hd;rw[(zbG hjl).2] at hd;simp only[List.getElem_take,List.getElem_drop,Array.getElem_toList];simpa[dgB] using hd);have hc:48<=(s.data[a+k]'hlt).toNat∧(s.data[a+k]'hlt).toNat<=57:=(by rw[p2] at hg;simpa[dgB] using hg);have hlen:(s.extract a (a+k)).data.toList.length<=k:=(by rw[wn,length_take];omega);rw[e,zic _ 0 0 _ hdig hc (by decide) (by omega) _ ih];simp only[nvN,p2]
theorem nv_atoi {s:ByteArray} {a k:Nat} (h0:0 < k) (hk:k<=14) (h:∀ j,j < k->dgB (pk s (a+j))=true):(zbX (s.extract a (a+k))).1=(nvN s a k:Int):=by
 have hu:=nv_uint k hk h;have hlt:=zir k h;have hd0:=h 0 h0;rw[Nat.add_zero] at hd0;have hl:=zcu hd0;obtain ⟨p1,p2⟩:=zbG hl;have e3:(10:Nat) ^ k<=10 ^ 15:=Nat.pow_le_pow_right (by decide) (by omega);have e4:(10:Nat) ^ 15=1000000000000000:=by decide
 have e:∃ r,(s.extract a (a+k)).data.toList=s.data[a]'hl :: r:=(by obtain ⟨m,rfl⟩:∃ m,k=m+1:=⟨k - 1,by omega⟩;rw[wn,show a+(m+1) - a=m+1 by omega];rw[List.drop_eq_getElem_cons (by show a < s.size;exact hl),List.take_succ_cons];exact ⟨_,rfl⟩);obtain ⟨r,hr⟩:=e;rw[hr] at hu;have hc:48<=(s.data[a]'hl).toNat∧(s.data[a]'hl).toNat<=57:=(by rw[p2] at hd0;simpa[dgB] using hd0);unfold zbX;have:Lib.atoiAll (s.extract a (a+k)).data.toList=.ok (nvN s a k:Int):=(by rw[hr];simp only[Lib.atoiAll,Lib.parseMag];rw[if_neg (show ¬ ((s.data[a]'hl).toNat=43∨(s.data[a]'hl).toNat=45) by omega),if_neg (by simp),hu];simp only;rw[if_neg (by omega),if_neg (by omega),if_neg (by omega)]);rw[this]
end
end Ab
