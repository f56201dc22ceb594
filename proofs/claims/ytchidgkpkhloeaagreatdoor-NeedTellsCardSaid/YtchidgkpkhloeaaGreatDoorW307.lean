/-
  Functions of the program as typed code, what they come to, and their contracts: written by program (mk.py).
-/
import Derived.Test.YtchidgkpkhloeaaGreatDoorMLf
set_option linter.unusedVariables false
noncomputable section
namespace Ab
open Go
set_option maxRecDepth 100000
section
variable (F104:LI->LI->(Option Bool)) (F123:LD->LI->(Option Int)) (F130:LD->LI->(Option Bool)) (F140:LD->LI->(Option Int)) (F317:LD->LI->(Option (LI×Err))) (F318:LD->(List LI)->(Option (LI×Err))) (F324:LD->(Option Int)) (F325:LD->(List (List LI))->LI->(Option LI)) (F326:LD->(Option (List (List LI)))) (F327:LD->LI->(Option LI)) (F328:LD->LI->(Option (LI×Err))) (F329:LD->LI->(Option LI)) (F92:Err->Int->(Option Bool))
def tc307:TCode:=.seq (rg [oq 3 (.box 0),om 6 (cb false)]) (.seq (rg [oq 25 (.load (some 1) 3),oq 26 (.call false [] 324 [25]),om 7 26]) (.seq (rg [om 27 7,om 8 27]) (.seq (.seq (rg [om 28 8,oq 29 (.bin .int .eql 28 (ci 0))]) (.condJ ⟨[.slot 8 .int],[30,31,32],[],[]⟩ 29 (rg [oq 30 (.load (some 1) 3),om 31 1,oq 32 (.call false [] 123 [30,31]),om 8 32]) (.skip))) (.seq (rg [om 9 cn,om 10 cn]) (.seq (.seq (rg [om 33 8,oq 34 (.bin .int .eql 33 (ci 0))]) (.condJ ⟨[.slot 9 (.sl .int),.slot 10 (.sl .int)],[35,36,37,38,39,40,41,42],[],[]⟩ 34 (.seq (.region [oq 35 (.load (some 1) 3),oq 36 (.load (some 1) 3),od 37 (.call true [] 326 [36]) [1],om 38 1,od 39 (.call true [] 325 [35,37,38]) [0,2,3,2],od 9 (.mov 39) [4,4,0,1,2,3,4]] [] true) (rg [oq 40 (.load (some 1) 3),om 41 1,oq 42 (.call true [] 327 [40,41]),om 10 42])) (.skip))) (.seq (rg [oq 44 (.load (some 1) 3),om 45 1,oq 46 (.call true [] 328 [44,45]),om 43 46,oq 47 (.ext 43 0),oq 48 (.ext 43 1),om 11 47,om 12 48]) (.seq (rg [om 49 12,om 50 8,oq 51 (.call false [] 92 [49,50]),om 13 51]) (.seq (rg [oq 53 (.load (some 1) 3),om 54 1,oq 55 (.call true [] 317 [53,54]),om 52 55,oq 56 (.ext 52 0),oq 57 (.ext 52 1),om 14 56,om 12 57]) (.seq (rg [om 58 12,om 59 8,oq 60 (.call false [] 92 [58,59]),om 15 60]) (.seq (rg [om 16 cn,om 17 cn]) (.seq (.seq (rg [om 18 (ci 0)]) (.loop ⟨[.slot 7 .int,.row 16 97 .int,.slot 18 .int],[19,61,62,63,64,65,66,67,68,69,70,71,72,73,74,75,76,77,78,79,80,81,82,83,84,85,86,87,88,89,90,91,92,93,94,95,96,97],[96],[]⟩ 0 (.seq (.seq (.regionJ ⟨[.slot 68 .bool],[61,62,63,64,65,66,67],[],[]⟩ [om 61 18,om 62 2,oq 63 (.len false 62),oq 64 (.bin .int .lss 61 63),om 65 64,og 66 (.mov 7) 65 true [],og 67 (.bin .int .eql 66 (ci 0)) 65 true [],oq 68 (.pick 65 67 (cb false))] [] false) (.cond 68 (.skip) (.exit 0))) (.seq (.block 1 (.seq (.region [oq 71 (.load (some 1) 3),om 72 2,om 73 18,od 74 (.ia 1 72 73) [1,2],od 75 (.load none 74) [3],od 76 (.call false [] 123 [71,75]) [0,4],od 7 (.mov 76) [5,5,0,1,2,3,4,5]] [] true) (.seq (.seq (rg [om 77 7,oq 78 (.bin .int .eql 77 (ci 0))]) (.condJ ⟨[.slot 7 .int],[19,79,80,81,82,83,84,85,86],[],[]⟩ 78 (.seq (.region [oq 79 (.load (some 1) 3),om 80 2,om 81 18,od 82 (.ia 1 80 81) [1,2],od 83 (.load none 82) [3],od 84 (.call false [] 130 [79,83]) [0,4],od 19 (.mov 84) [5,5,0,1,2,3,4,5]] [] true) (.seq (rg [om 85 19,oq 86 (.un .not 85)]) (.condJ ⟨[.slot 7 .int],[],[],[]⟩ 86 (rg [om 7 (ci 6)]) (.skip)))) (.skip))) (.seq (rg [om 87 7,oq 88 (.bin .int .eql 87 (ci 0))]) (.condJ ⟨[.row 16 97 .int],[89,90,91,92,93,94,95,96,97],[96],[]⟩ 88 (.region [om 89 16,oq 90 (.load (some 1) 3),om 91 2,om 92 18,od 93 (.ia 1 91 92) [2,3],od 94 (.load none 93) [4],od 95 (.call false [] 140 [90,94]) [1,5],od 96 (.bslice false 1 [.int .i64 0] 1 [(0,95)]) [6],od 97 (.app 1 89 96) [0,7,6],od 16 (.mov 97) [8,8,0,1,2,3,4,5,6,7,8]] [] true) (.skip)))))) (rg [om 69 18,oq 70 (.bin .int .add 69 (ci 1)),om 18 70]))))) (.seq (.seq (rg [om 98 7,oq 99 (.bin .int .eql 98 (ci 0))]) (.condJ ⟨[.slot 17 (.sl .int)],[100,101,102],[97],[]⟩ 99 (rg [oq 100 (.load (some 1) 3),om 101 16,oq 102 (.call true [] 329 [100,101]),om 17 102]) (.skip))) (.seq (rg [oq 104 (.load (some 1) 3),om 105 2,oq 106 (.call true [] 318 [104,105]),om 103 106,oq 107 (.ext 103 0),oq 108 (.ext 103 1),om 20 107,om 12 108]) (.seq (rg [om 109 12,om 110 7,oq 111 (.call false [] 92 [109,110]),om 21 111]) (.seq (rg [om 112 11,om 113 9,oq 114 (.call false [] 104 [112,113]),om 22 114]) (.seq (rg [om 115 14,om 116 10,oq 117 (.call false [] 104 [115,116]),om 23 117]) (.seq (rg [om 118 20,om 119 17,oq 120 (.call false [] 104 [118,119]),om 24 120]) (.seq (.regionJ ⟨[.slot 6 .bool],[121,122,123,124,125,126,127,128,129,130,131,132,133,134,135,136],[],[]⟩ [om 121 13,om 122 121,og 123 (.mov 15) 122 true [],oq 124 (.pick 122 123 (cb false)),om 125 124,og 126 (.mov 21) 125 true [],oq 127 (.pick 125 126 (cb false)),om 128 127,og 129 (.mov 22) 128 true [],oq 130 (.pick 128 129 (cb false)),om 131 130,og 132 (.mov 23) 131 true [],oq 133 (.pick 131 132 (cb false)),om 134 133,og 135 (.mov 24) 134 true [],oq 136 (.pick 134 135 (cb false)),om 6 136] [] false) (.ret))))))))))))))))))) 
def tf307:TFunc:=⟨3,137,[.tmp 6],false,tc307,[]⟩
def jL (a0:LD) (a2:(List LI)) (x12:(Int×LI×Int)):Option (LR (Int×LI×Int) Bool) :=
 jn (σ:=Bool) (α:=(LR (Int×(List Int)×Int) Bool)) (br (decide (x12.2.2 < ((List.length a2:Nat):Int)))
 (zw (some (decide (x12.1=(0:Int)))))
 (zw (some false))) fun x13 =>
 br x13
 (bno (zm a2 x12.2.2) fun y14 =>
 bno (F123 a0 y14) fun y15 =>
 jn (σ:=Int) (α:=(LR (Int×(List Int)×Int) Bool)) (br (decide (y15=(0:Int)))
 (bno (zm a2 x12.2.2) fun y16 =>
 bno (F130 a0 y16) fun y17 =>
 jn (σ:=Int) (α:=(Sum Int (LR (Int×(List Int)×Int) Bool))) (br (!y17)
 (zw (some (6:Int)))
 (zw (some y15))) fun x18 =>
 zw (some x18))
 (zw (some y15))) fun x19 =>
 jn (σ:=(List Int)) (α:=(LR (Int×(List Int)×Int) Bool)) (br (decide (x19=(0:Int)))
 (bno (zm a2 x12.2.2) fun y20 =>
 bno (F140 a0 y20) fun y21 =>
 ck (decide (List.length x12.2.1+List.length ([y21]:List Int)<=zA)) <|
 zw (some (x12.2.1++([y21]:List Int))))
 (zw (some x12.2.1))) fun x22 =>
 nxO (some (x19,x22,wi (x12.2.2+(1:Int)))))
 (dnO (some (x12.1,x12.2.1,x12.2.2)))
def S307 (a0:LD) (a1:LI) (a2:(List LI)):Option Bool :=
 bno (F324 a0) fun y1 =>
 jn (σ:=Int) (α:=Bool) (br (decide (y1=(0:Int)))
 (bno (F123 a0 a1) fun y2 =>
 zw (some y2))
 (zw (some y1))) fun x3 =>
 jn (σ:=((List Int)×(List Int))) (α:=Bool) (br (decide (x3=(0:Int)))
 (bno (F326 a0) fun y4 =>
 bno (F325 a0 y4 a1) fun y5 =>
 bno (F327 a0 a1) fun y6 =>
 zw (some (y5,y6)))
 (zw (some (([]:List Int),([]:List Int))))) fun x7 =>
 bno (F328 a0 a1) fun y8 =>
 bno (F92 y8.2 x3) fun y9 =>
 bno (F317 a0 a1) fun y10 =>
 bno (F92 y10.2 x3) fun y11 =>
 lp (jL F123 F130 F140 a0 a2) (y1,([]:List Int),(0:Int)) fun x23 =>
 jn (σ:=(List Int)) (α:=Bool) (br (decide (x23.1=(0:Int)))
 (bno (F329 a0 x23.2.1) fun y24 =>
 zw (some y24))
 (zw (some ([]:List Int)))) fun x25 =>
 bno (F318 a0 a2) fun y26 =>
 bno (F92 y26.2 x23.1) fun y27 =>
 bno (F104 y8.1 x7.1) fun y28 =>
 bno (F104 y10.1 x7.2) fun y29 =>
 bno (F104 y26.1 x25) fun y30 =>
 jn (σ:=Bool) (α:=Bool) (br y9
 (br y11
 (br y27
 (br y28
 (br y29
 (zw (some y30))
 (zw (some false)))
 (zw (some false)))
 (zw (some false)))
 (zw (some false)))
 (zw (some false))) fun x31 =>
 some x31
def P307:=S307 P104 P123 P130 zjV P317 P318 P324 P325 P326 P327 P328 P329 P92
def k307:CSpec:=⟨307,[(.st .outl),(.sl .int),(.sl (.sl .int))],.bool,fun x=>P307 x.1 x.2.1 x.2.2,false,[]⟩
theorem r307 {S:Seat} (h:Ok1 S 307 tf307):RtF S [k104,k123,k130,k140,k317,k318,k324,k325,k326,k327,k328,k329,k92] (Rt S k307):=okr h rfl fun x=>by kernel_rfl
end
end Ab
