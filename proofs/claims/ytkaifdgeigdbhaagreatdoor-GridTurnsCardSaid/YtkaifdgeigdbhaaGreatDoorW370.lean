/-
  Functions of the program as typed code, what they come to, and their contracts: written by program (mk.py).
-/
import Derived.Test.YtkaifdgeigdbhaaGreatDoorJ1
import Derived.Test.YtkaifdgeigdbhaaGreatDoorJ3
set_option linter.unusedVariables false
noncomputable section
namespace Ab
open Go
set_option maxRecDepth 100000
section
variable (F330:LD->LY->LI->(Option (Cell×Err))) (F376:Grid->(Option (Grid×Err))) (F377:LD->LY->LI->Int->Int->(Option (Grid×Err))) (F378:Grid->(Option Err)) (F379:Grid->Grid->(Option Bool)) (F8:Int->(Option Cell))
def tc370:TCode:=.seq (rg [oq 5 (.box 0),om 10 (cb false)]) (.seq (.region [oq 28 (.bslice false 1 [.int .i64 0] 1 [(0,(ci 0))]),oq 29 (.bslice false 1 [.int .i64 0] 2 [(0,(ci 0)),(1,(ci 1))]),oq 30 (.call false [] 8 [(ci 1)]),oq 31 (.call false [] 8 [(ci 2)]),oq 32 (.bslice false 2 [.int .i64 0,.int .i64 0] 2 [(0,30),(1,31)]),oq 33 (.bslice true 1 [.slice none 0 0] 1 [(0,32)]),oq 34 (.build [.slice none 0 0,.slice none 0 0,.slice none 0 0] [(0,1,28),(1,1,29),(2,1,33)]),oq 11 (.alloc [.slice none 0 0,.slice none 0 0,.slice none 0 0]),on (.store 3 11 34)] [.int,.int,.int,.int,.cell,(.sl .cell)] false) (.seq (rg [oq 36 (.load (some 3) 11),oq 37 (.call true [] 376 [36]),om 35 37,oq 38 (.ext 35 0),oq 39 (.ext 35 1),oq 12 (.alloc [.slice none 0 0,.slice none 0 0,.slice none 0 0]),on (.store 3 12 38),om 13 39]) (.seq (.seq (.regionJ ⟨[.slot 53 .bool],[40,41,42,43,44,45,46,47,48,49,50,51,52],[],[]⟩ [om 40 13,oq 41 (.eqn false true 40),om 42 41,og 43 (.fa 2 12) 42 false [],og 44 (.load none 43) 42 false [],og 45 (.len false 44) 42 false [],og 46 (.bin .int .neq 45 (ci 2)) 42 false [],oq 47 (.pick 42 (cb true) 46),om 48 47,og 49 (.fa 0 12) 48 false [],og 50 (.load none 49) 48 false [],og 51 (.len false 50) 48 false [],og 52 (.bin .int .neq 51 (ci 2)) 48 false [],oq 53 (.pick 48 (cb true) 52)] [] false) (.cond 53 (.seq (rg [om 10 (cb false)]) (.ret)) (.skip))) (.seq (rg [oq 55 (.load (some 1) 5),om 56 1,om 57 2,om 58 3,om 59 4,oq 60 (.call true [] 377 [55,56,57,58,59]),om 54 60,oq 61 (.ext 54 0),oq 62 (.ext 54 1),oq 14 (.alloc [.slice none 0 0,.slice none 0 0,.slice none 0 0]),on (.store 3 14 61),om 15 62]) (.seq (.seq (rg [om 63 15,oq 64 (.eqn false true 63)]) (.cond 64 (.seq (rg [om 10 (cb true)]) (.ret)) (.skip))) (.seq (.seq (.regionJ ⟨[.slot 87 .bool],[65,66,67,68,69,70,71,72,73,74,75,76,77,78,79,80,81,82,83,84,85,86],[],[]⟩ [om 65 3,oq 66 (.bin .int .lss 65 (ci 0)),om 67 66,og 68 (.mov 3) 67 false [],og 69 (.mov 2) 67 false [],og 70 (.len false 69) 67 false [],og 71 (.bin .int .geq 68 70) 67 false [],oq 72 (.pick 67 (cb true) 71),om 73 72,og 74 (.mov 4) 73 false [],og 75 (.bin .int .lss 74 (ci 0)) 73 false [],oq 76 (.pick 73 (cb true) 75),om 77 76,og 78 (.mov 4) 77 false [],og 79 (.mov 2) 77 false [],og 80 (.len false 79) 77 false [],og 81 (.bin .int .geq 78 80) 77 false [],oq 82 (.pick 77 (cb true) 81),om 83 82,og 84 (.load (some 3) 14) 83 false [],og 85 (.call false [] 378 [84]) 83 false [],og 86 (.eqn false true 85) 83 false [],oq 87 (.pick 83 (cb true) 86)] [] false) (.cond 87 (.seq (rg [om 10 (cb false)]) (.ret)) (.skip))) (.seq (rg [oq 89 (.load (some 1) 5),om 90 1,om 91 2,om 92 4,om 93 3,oq 94 (.call true [] 377 [89,90,91,92,93]),om 88 94,oq 95 (.ext 88 0),oq 96 (.ext 88 1),oq 16 (.alloc [.slice none 0 0,.slice none 0 0,.slice none 0 0]),on (.store 3 16 95),om 17 96]) (.seq (rg [oq 98 (.load (some 3) 14),oq 99 (.call true [] 376 [98]),om 97 99,oq 100 (.ext 97 0),oq 101 (.ext 97 1),oq 18 (.alloc [.slice none 0 0,.slice none 0 0,.slice none 0 0]),on (.store 3 18 100),om 19 101]) (.seq (rg [oq 103 (.load (some 3) 18),oq 104 (.call true [] 376 [103]),om 102 104,oq 105 (.ext 102 0),oq 106 (.ext 102 1),oq 20 (.alloc [.slice none 0 0,.slice none 0 0,.slice none 0 0]),on (.store 3 20 105),om 21 106]) (.seq (rg [oq 107 (.load (some 3) 18),oq 108 (.load (some 3) 16),oq 109 (.call false [] 379 [107,108]),om 22 109]) (.seq (rg [oq 110 (.load (some 3) 20),oq 111 (.load (some 3) 14),oq 112 (.call false [] 379 [110,111]),om 23 112]) (.seq (.seq (.regionJ ⟨[.slot 130 .bool],[113,114,115,116,117,118,119,120,121,122,123,124,125,126,127,128,129],[],[]⟩ [om 113 17,oq 114 (.eqn false true 113),om 115 114,og 116 (.mov 19) 115 false [],og 117 (.eqn false true 116) 115 false [],oq 118 (.pick 115 (cb true) 117),om 119 118,og 120 (.mov 21) 119 false [],og 121 (.eqn false true 120) 119 false [],oq 122 (.pick 119 (cb true) 121),om 123 122,og 124 (.mov 22) 123 false [],og 125 (.un .not 124) 123 false [],oq 126 (.pick 123 (cb true) 125),om 127 126,og 128 (.mov 23) 127 false [],og 129 (.un .not 128) 127 false [],oq 130 (.pick 127 (cb true) 129)] [] false) (.cond 130 (.seq (rg [om 10 (cb false)]) (.ret)) (.skip))) (.seq (rg [oq 132 (.load (some 1) 5),om 133 1,om 134 2,oq 135 (.call false [] 330 [132,133,134]),om 131 135,oq 136 (.ext 131 0),oq 137 (.ext 131 1),oq 24 (.alloc [.int .i64 0,.int .i64 0]),on (.store 2 24 136),om 25 137]) (.seq (rg [om 138 2,om 139 3,oq 140 (.ia 1 138 139),oq 141 (.load none 140),om 26 141]) (.seq (rg [om 142 2,om 143 4,oq 144 (.ia 1 142 143),oq 145 (.load none 144),om 27 145]) (.seq (.regionJ ⟨[.slot 10 .bool],[146,147,148,149,150,151,152,153,154,155,156,157,158,159,160,161,162,163,164,165,166,167,168,169,170,171,172,173,174,175,176,177,178,179,180,181,182,183,184],[],[]⟩ [om 146 25,od 147 (.eqn false false 146) [0],od 148 (.mov 147) [1],og 149 (.mov 26) 148 true [2],og 150 (.bin .int .geq 149 (ci 0)) 148 true [3,2],od 151 (.pick 148 150 (cb false)) [2,4],od 152 (.mov 151) [5,2],og 153 (.mov 26) 152 true [6],og 154 (.fa 2 14) 152 true [6],og 155 (.load none 154) 152 true [8,6],og 156 (.len false 155) 152 true [9,6],og 157 (.bin .int .lss 153 156) 152 true [7,10,6],od 158 (.pick 152 157 (cb false)) [6,11],od 159 (.mov 158) [12,6],og 160 (.mov 27) 159 true [13],og 161 (.bin .int .geq 160 (ci 0)) 159 true [14,13],od 162 (.pick 159 161 (cb false)) [13,15],od 163 (.mov 162) [16,13],og 164 (.mov 27) 163 true [17],og 165 (.fa 2 14) 163 true [17],og 166 (.load none 165) 163 true [19,17],og 167 (.mov 26) 163 true [17],og 168 (.ia 1 166 167) 163 true [20,21,17],og 169 (.load none 168) 163 true [22,17],og 170 (.len false 169) 163 true [23,17],og 171 (.bin .int .lss 164 170) 163 true [18,24,17],od 172 (.pick 163 171 (cb false)) [17,25],od 173 (.mov 172) [26,17],og 174 (.fa 2 14) 173 true [27],og 175 (.load none 174) 173 true [28,27],og 176 (.mov 26) 173 true [27],og 177 (.ia 1 175 176) 173 true [29,30,27],og 178 (.load none 177) 173 true [31,27],og 179 (.mov 27) 173 true [27],og 180 (.ia 2 178 179) 173 true [32,33,27],og 181 (.load (some 2) 180) 173 true [34,27],og 182 (.load (some 2) 24) 173 true [27],og 183 (.eqa false [(0,.int),(1,.int)] 181 182) 173 true [35,36,27],od 184 (.pick 173 183 (cb false)) [27,37],od 10 (.mov 184) [38,27,0,1,2,3,4,5,6,7,8,9,10,11,12,13,14,15,16,17,18,19,20,21,22,23,24,25,26,27,28,29,30,31,32,33,34,35,36,37,38]] [] true) (.ret))))))))))))))))) 
def tf370:TFunc:=⟨5,185,[.tmp 10],false,tc370,[]⟩
def S370 (a0:LD) (a1:LY) (a2:LI) (a3:Int) (a4:Int):Option Bool :=
 bno (F8 (1:Int)) fun y1 =>
 bno (F8 (2:Int)) fun y2 =>
 bno (F376 (Grid.mk ([(0:Int)]:List Int) ([(0:Int),(1:Int)]:List Int) ([([y1,y2]:List Cell)]:List (List Cell)))) fun y3 =>
 jn (σ:=Bool) (α:=Bool) (br (!(Err.isNil y3.2))
 (zB (some true))
 (br (decide (¬ ((List.length (Grid.cells y3.1):Nat):Int)=(2:Int)))
 (zB (some true))
 (zB (some (decide (¬ ((List.length (Grid.rows y3.1):Nat):Int)=(2:Int))))))) fun x4 =>
 br x4
 (some false)
 (bno (F377 a0 a1 a2 a3 a4) fun y5 =>
 br (!(Err.isNil y5.2))
 (some true)
 (jn (σ:=Bool) (α:=Bool) (br (decide (a3 < (0:Int)))
 (zB (some true))
 (br (decide (((List.length a2:Nat):Int)<=a3))
 (zB (some true))
 (br (decide (a4 < (0:Int)))
 (zB (some true))
 (br (decide (((List.length a2:Nat):Int)<=a4))
 (zB (some true))
 (bno (F378 y5.1) fun y6 =>
 zB (some (!(Err.isNil y6)))))))) fun x7 =>
 br x7
 (some false)
 (bno (F377 a0 a1 a2 a4 a3) fun y8 =>
 bno (F376 y5.1) fun y9 =>
 bno (F376 y9.1) fun y10 =>
 bno (F379 y9.1 y8.1) fun y11 =>
 bno (F379 y10.1 y5.1) fun y12 =>
 jn (σ:=Bool) (α:=Bool) (br (!(Err.isNil y8.2))
 (zB (some true))
 (br (!(Err.isNil y9.2))
 (zB (some true))
 (br (!(Err.isNil y10.2))
 (zB (some true))
 (br (!y11)
 (zB (some true))
 (zB (some (!y12))))))) fun x13 =>
 br x13
 (some false)
 (bno (F330 a0 a1 a2) fun y14 =>
 bno (zn a2 a3) fun y15 =>
 bno (zn a2 a4) fun y16 =>
 jn (σ:=Bool) (α:=Bool) (br (Err.isNil y14.2)
 (br (decide ((0:Int)<=y15))
 (br (decide (y15 < ((List.length (Grid.cells y5.1):Nat):Int)))
 (br (decide ((0:Int)<=y16))
 (bno (zn (Grid.cells y5.1) y15) fun y17 =>
 br (decide (y16 < ((List.length y17:Nat):Int)))
 (bno (zn (Grid.cells y5.1) y15) fun y18 =>
 bno (zn y18 y16) fun y19 =>
 zB (some (decide ((Cell.k y19)=(Cell.k y14.1)) && (decide ((Cell.n y19)=(Cell.n y14.1)) && true))))
 (zB (some false)))
 (zB (some false)))
 (zB (some false)))
 (zB (some false)))
 (zB (some false))) fun x20 =>
 some x20))))
def P370:=S370 P330 P376 P377 P378 P379 P8
def k370:CSpec:=⟨370,[(.st .outl),(.sl .entry),(.sl .int),.int,.int],.bool,fun x=>P370 x.1 x.2.1 x.2.2.1 x.2.2.2.1 x.2.2.2.2,false,[]⟩
theorem r370 {S:Seat} (h:Ok1 S 370 tf370):RtF S [k330,k376,k377,k378,k379,k8] (Rt S k370):=okr h rfl fun x=>by kernel_rfl
end
end Ab
