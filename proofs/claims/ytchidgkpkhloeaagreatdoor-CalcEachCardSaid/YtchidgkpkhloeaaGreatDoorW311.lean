/-
  Functions of the program as typed code, what they come to, and their contracts: written by program (mk.py).
-/
import Derived.Test.YtchidgkpkhloeaaGreatDoorH7
set_option linter.unusedVariables false
noncomputable section
namespace Ab
open Go
set_option maxRecDepth 100000
section
variable (F132:LD->LI->(Option (Int×Err))) (F328:LD->LI->(Option (LI×Err))) (F330:LD->LY->LI->(Option (Cell×Err))) (F332:LD->LY->(Option (LC×Err))) (F334:LD->(Option (LI×Err))) (F8:Int->(Option Cell)) (F98:LD->Int->(Option (LI×Err)))
def tc311:TCode:=.seq (rg [oq 3 (.box 0),om 6 (cb false)]) (.seq (.region [oq 28 (.build [.string ⟨#[]⟩,.int .i64 0,.int .i64 0,.string ⟨#[]⟩] [(0,1,(cs ⟨#[98]⟩)),(1,1,(ci (-1)))]),oq 29 (.build [.string ⟨#[]⟩,.int .i64 0,.int .i64 0,.string ⟨#[]⟩] [(0,1,(cs ⟨#[99]⟩)),(1,1,(ci 0)),(2,1,(ci 1))]),oq 30 (.bslice false 4 [.string ⟨#[]⟩,.int .i64 0,.int .i64 0,.string ⟨#[]⟩] 2 [(0,28),(1,29)]),oq 31 (.build [.string ⟨#[]⟩,.int .i64 0,.slice none 0 0] [(0,1,(cs ⟨#[97]⟩)),(2,1,30)]),oq 32 (.bslice true 3 [.string ⟨#[]⟩,.int .i64 0,.slice none 0 0] 1 [(0,31)]),oq 33 (.build [.slice none 0 0] [(0,1,32)]),oq 7 (.alloc [.slice none 0 0]),on (.store 1 7 33)] [.int,.int,.member,.int,.dim] false) (.seq (.region [oq 35 (.load (some 1) 7),oq 36 (.bslice false 1 [.int .i64 0] 1 [(0,(ci 1))]),oq 37 (.build [.slice none 0 0,.int .i64 0] [(0,1,36),(1,1,(ci 7))]),oq 38 (.bslice true 2 [.slice none 0 0,.int .i64 0] 1 [(0,37)]),oq 39 (.call true [] 332 [35,38]),om 34 39,oq 40 (.ext 34 0),oq 41 (.ext 34 1),om 8 40,om 9 41] [.int,.int,.int,.entry] false) (.seq (.seq (.regionJ ⟨[.slot 55 .bool],[42,43,44,45,46,47,48,49,50,51,52,53,54],[],[]⟩ [om 42 9,od 43 (.eqn false true 42) [0],od 44 (.mov 43) [1],og 45 (.mov 8) 44 false [2],og 46 (.len false 45) 44 false [3,2],og 47 (.bin .int .neq 46 (ci 2)) 44 false [4,2],od 48 (.pick 44 (cb true) 47) [2,5],od 49 (.mov 48) [6,2],og 50 (.mov 8) 49 false [7],og 51 (.ia 2 50 (ci 0)) 49 false [8,7],og 52 (.load (some 2) 51) 49 false [9,7],og 53 (.call false [] 8 [(ci 7)]) 49 false [7,7],og 54 (.eqa true [(0,.int),(1,.int)] 52 53) 49 false [10,11,7],od 55 (.pick 49 (cb true) 54) [7,12]] [] true) (.cond 55 (.seq (rg [om 6 (cb false)]) (.ret)) (.skip))) (.seq (rg [oq 57 (.load (some 1) 3),om 58 1,oq 59 (.call true [] 332 [57,58]),om 56 59,oq 60 (.ext 56 0),oq 61 (.ext 56 1),om 10 60,om 11 61]) (.seq (.seq (rg [om 62 11,oq 63 (.eqn false true 62)]) (.cond 63 (.seq (rg [om 6 (cb true)]) (.ret)) (.skip))) (.seq (.seq (rg [om 12 (ci 0)]) (.loop ⟨[.slot 12 .int],[13,14,15,64,65,66,67,68,69,70,71,72,73,74,75,76,77,78,79,80,81,82,83,84,85,86,87,88,89,90,91,92,93,94,95,96,97,98,99,100,101,102,103,104,105,106,107,108,109,110,111,112,113,114,115,116,117,118,119,120],[15],[]⟩ 0 (.seq (.seq (.regionJ ⟨[.slot 71 .bool],[64,65,66,67,68,69,70],[],[]⟩ [om 64 12,om 65 2,oq 66 (.len false 65),oq 67 (.bin .int .lss 64 66),om 68 67,og 69 (.mov 12) 68 true [],og 70 (.bin .int .lss 69 (ci 20)) 68 true [],oq 71 (.pick 68 70 (cb false))] [] false) (.cond 71 (.skip) (.exit 0))) (.seq (.blockJ ⟨[],[13,14,15,74,75,76,77,78,79,80,81,82,83,84,85,86,87,88,89,90,91,92,93,94,95,96,97,98,99,100,101,102,103,104,105,106,107,108,109,110,111,112,113,114,115,116,117,118,119,120],[15],[]⟩ 1 (.seq (.region [oq 75 (.load (some 1) 3),om 76 2,om 77 12,od 78 (.ia 1 76 77) [1,2],od 79 (.load none 78) [3],od 80 (.call true [] 98 [75,79]) [0,4],od 74 (.mov 80) [5],od 81 (.ext 74 0) [6],od 82 (.ext 74 1) [6],od 13 (.mov 81) [7,5,0,1,2,3,4,5,6,7],od 14 (.mov 82) [8,9,0,1,2,3,4,5,6,7,8,9]] [] true) (.seq (.seq (rg [om 83 14,oq 84 (.eqn false true 83)]) (.cond 84 (.exit 1) (.skip))) (.seq (rg [oq 86 (.load (some 1) 3),om 87 1,om 88 13,oq 89 (.call false [] 330 [86,87,88]),om 85 89,oq 90 (.ext 85 0),oq 91 (.ext 85 1),oq 15 (.alloc [.int .i64 0,.int .i64 0]),on (.store 2 15 90),om 14 91]) (.seq (.regionJ ⟨[.slot 120 .bool],[92,93,94,95,96,97,98,99,100,101,102,103,104,105,106,107,108,109,110,111,112,113,114,115,116,117,118,119],[],[]⟩ [om 92 14,od 93 (.eqn false true 92) [0],od 94 (.mov 93) [1],og 95 (.mov 2) 94 false [2],og 96 (.mov 12) 94 false [2],og 97 (.ia 1 95 96) 94 false [3,4,2],og 98 (.load none 97) 94 false [5,2],og 99 (.bin .int .lss 98 (ci 0)) 94 false [6,2],od 100 (.pick 94 (cb true) 99) [2,7],od 101 (.mov 100) [8,2],og 102 (.mov 2) 101 false [9],og 103 (.mov 12) 101 false [9],og 104 (.ia 1 102 103) 101 false [10,11,9],og 105 (.load none 104) 101 false [12,9],og 106 (.mov 10) 101 false [9],og 107 (.len false 106) 101 false [14,9],og 108 (.bin .int .geq 105 107) 101 false [13,15,9],od 109 (.pick 101 (cb true) 108) [9,16],od 110 (.mov 109) [17,9],og 111 (.mov 10) 110 false [18],og 112 (.mov 2) 110 false [18],og 113 (.mov 12) 110 false [18],og 114 (.ia 1 112 113) 110 false [20,21,18],og 115 (.load none 114) 110 false [22,18],og 116 (.ia 2 111 115) 110 false [19,23,18],og 117 (.load (some 2) 116) 110 false [24,18],og 118 (.load (some 2) 15) 110 false [18],og 119 (.eqa true [(0,.int),(1,.int)] 117 118) 110 false [25,26,18],od 120 (.pick 110 (cb true) 119) [18,27]] [] true) (.cond 120 (.seq (rg [om 6 (cb false)]) (.ret)) (.skip))))))) (rg [om 72 12,oq 73 (.bin .int .add 72 (ci 1)),om 12 73]))))) (.seq (.seq (rg [om 16 (ci 0)]) (.loop ⟨[.slot 16 .int],[17,18,121,122,123,124,125,126,127,128,129,130,131,132,133,134,135,136,137,138,139,140,141,142,143,144,145,146,147,148,149,150,151,152,153,154,155,156,157,158,159,160,161],[],[]⟩ 2 (.seq (.seq (rg [om 121 16,om 122 1,oq 123 (.len false 122),oq 124 (.bin .int .lss 121 123)]) (.cond 124 (.skip) (.exit 2))) (.seq (.block 3 (.seq (.region [oq 128 (.load (some 1) 3),om 129 1,om 130 16,od 131 (.ia 2 129 130) [1,2],od 132 (.fa 0 131) [3],od 133 (.load none 132) [4],od 134 (.call false [] 132 [128,133]) [0,5],od 127 (.mov 134) [6],od 135 (.ext 127 0) [7],od 136 (.ext 127 1) [7],od 17 (.mov 135) [8,6,0,1,2,3,4,5,6,7,8],od 18 (.mov 136) [9,10,0,1,2,3,4,5,6,7,8,9,10]] [] true) (.seq (.regionJ ⟨[.slot 161 .bool],[137,138,139,140,141,142,143,144,145,146,147,148,149,150,151,152,153,154,155,156,157,158,159,160],[],[]⟩ [om 137 18,od 138 (.eqn false true 137) [0],od 139 (.mov 138) [1],og 140 (.mov 17) 139 false [2],og 141 (.bin .int .lss 140 (ci 0)) 139 false [3,2],od 142 (.pick 139 (cb true) 141) [2,4],od 143 (.mov 142) [5,2],og 144 (.mov 17) 143 false [6],og 145 (.mov 10) 143 false [6],og 146 (.len false 145) 143 false [8,6],og 147 (.bin .int .geq 144 146) 143 false [7,9,6],od 148 (.pick 143 (cb true) 147) [6,10],od 149 (.mov 148) [11,6],og 150 (.mov 10) 149 false [12],og 151 (.mov 17) 149 false [12],og 152 (.ia 2 150 151) 149 false [13,14,12],og 153 (.load (some 2) 152) 149 false [15,12],og 154 (.mov 1) 149 false [12],og 155 (.mov 16) 149 false [12],og 156 (.ia 2 154 155) 149 false [17,18,12],og 157 (.fa 1 156) 149 false [19,12],og 158 (.load none 157) 149 false [20,12],og 159 (.call false [] 8 [158]) 149 false [21,12,12],og 160 (.eqa true [(0,.int),(1,.int)] 153 159) 149 false [16,22,12],od 161 (.pick 149 (cb true) 160) [12,23]] [] true) (.cond 161 (.seq (rg [om 6 (cb false)]) (.ret)) (.skip))))) (rg [om 125 16,oq 126 (.bin .int .add 125 (ci 1)),om 16 126]))))) (.seq (rg [oq 163 (.load (some 1) 3),oq 164 (.call true [] 334 [163]),om 162 164,oq 165 (.ext 162 0),oq 166 (.ext 162 1),om 19 165,om 20 166]) (.seq (.seq (.regionJ ⟨[.slot 175 .bool],[167,168,169,170,171,172,173,174],[],[]⟩ [om 167 20,oq 168 (.eqn false true 167),om 169 168,og 170 (.mov 19) 169 false [],og 171 (.len false 170) 169 false [],og 172 (.mov 10) 169 false [],og 173 (.len false 172) 169 false [],og 174 (.bin .int .neq 171 173) 169 false [],oq 175 (.pick 169 (cb true) 174)] [] false) (.cond 175 (.seq (rg [om 6 (cb false)]) (.ret)) (.skip))) (.seq (.region [om 176 10,oq 177 (.len false 176),oq 178 (.mksl 1 [.bool false] 177 177),om 21 178] [.int,.int,.bool] false) (.seq (.seq (rg [om 22 (ci 0)]) (.loop ⟨[.slot 22 .int,.rowH 178 .bool],[23,24,25,26,27,179,180,181,182,183,184,185,186,187,188,189,190,191,192,193,194,195,196,197,198,199,200,201,202,203,204,205,206,207,208,209,210,211,212,213,214,215,216,217,218,219,220,221,222,223,224,225,226,227,228,229,230,231,232,233,234,235,236,237,238,239,240,241,242,243,244,245,246,247,248,249,250,251,252,253,254,255,256,257,258,259,260,261,262,263,264,265,266],[],[]⟩ 4 (.seq (.seq (rg [om 179 22,om 180 19,oq 181 (.len false 180),oq 182 (.bin .int .lss 179 181)]) (.cond 182 (.skip) (.exit 4))) (.seq (.block 5 (.seq (.region [oq 186 (.load (some 1) 3),om 187 19,om 188 22,od 189 (.ia 1 187 188) [1,2],od 190 (.load none 189) [3],od 191 (.call true [] 98 [186,190]) [0,4],od 185 (.mov 191) [5],od 192 (.ext 185 0) [6],od 193 (.ext 185 1) [6],od 23 (.mov 192) [7,5,0,1,2,3,4,5,6,7],od 24 (.mov 193) [8,9,0,1,2,3,4,5,6,7,8,9]] [] true) (.seq (rg [oq 195 (.load (some 1) 3),om 196 23,oq 197 (.call true [] 328 [195,196]),om 194 197,oq 198 (.ext 194 0),oq 199 (.ext 194 1),om 25 198,om 26 199]) (.seq (.seq (.regionJ ⟨[.slot 230 .bool],[200,201,202,203,204,205,206,207,208,209,210,211,212,213,214,215,216,217,218,219,220,221,222,223,224,225,226,227,228,229],[],[]⟩ [om 200 24,oq 201 (.eqn false true 200),om 202 201,og 203 (.mov 26) 202 false [],og 204 (.eqn false true 203) 202 false [],oq 205 (.pick 202 (cb true) 204),om 206 205,og 207 (.mov 19) 206 false [],og 208 (.mov 22) 206 false [],og 209 (.ia 1 207 208) 206 false [],og 210 (.load none 209) 206 false [],og 211 (.bin .int .lss 210 (ci 0)) 206 false [],oq 212 (.pick 206 (cb true) 211),om 213 212,og 214 (.mov 19) 213 false [],og 215 (.mov 22) 213 false [],og 216 (.ia 1 214 215) 213 false [],og 217 (.load none 216) 213 false [],og 218 (.mov 10) 213 false [],og 219 (.len false 218) 213 false [],og 220 (.bin .int .geq 217 219) 213 false [],oq 221 (.pick 213 (cb true) 220),om 222 221,og 223 (.mov 21) 222 false [],og 224 (.mov 19) 222 false [],og 225 (.mov 22) 222 false [],og 226 (.ia 1 224 225) 222 false [],og 227 (.load none 226) 222 false [],og 228 (.ia 1 223 227) 222 false [],og 229 (.load none 228) 222 false [],oq 230 (.pick 222 (cb true) 229)] [] false) (.cond 230 (.seq (rg [om 6 (cb false)]) (.ret)) (.skip))) (.seq (.seq (rg [om 27 (ci 0)]) (.loop ⟨[.slot 27 .int],[231,232,233,234,235,236,237,238,239,240,241,242,243,244,245,246,247,248,249,250,251,252,253,254,255,256,257,258,259,260],[],[]⟩ 6 (.seq (.seq (rg [om 231 27,om 232 25,oq 233 (.len false 232),oq 234 (.bin .int .lss 231 233)]) (.cond 234 (.skip) (.exit 6))) (.seq (.block 7 (.seq (.regionJ ⟨[.slot 260 .bool],[237,238,239,240,241,242,243,244,245,246,247,248,249,250,251,252,253,254,255,256,257,258,259],[],[]⟩ [om 237 25,om 238 27,oq 239 (.ia 1 237 238),oq 240 (.load none 239),oq 241 (.bin .int .lss 240 (ci 0)),om 242 241,og 243 (.mov 25) 242 false [],og 244 (.mov 27) 242 false [],og 245 (.ia 1 243 244) 242 false [],og 246 (.load none 245) 242 false [],og 247 (.mov 10) 242 false [],og 248 (.len false 247) 242 false [],og 249 (.bin .int .geq 246 248) 242 false [],oq 250 (.pick 242 (cb true) 249),om 251 250,og 252 (.mov 21) 251 false [],og 253 (.mov 25) 251 false [],og 254 (.mov 27) 251 false [],og 255 (.ia 1 253 254) 251 false [],og 256 (.load none 255) 251 false [],og 257 (.ia 1 252 256) 251 false [],og 258 (.load none 257) 251 false [],og 259 (.un .not 258) 251 false [],oq 260 (.pick 251 (cb true) 259)] [] false) (.cond 260 (.seq (rg [om 6 (cb false)]) (.ret)) (.skip)))) (rg [om 235 27,oq 236 (.bin .int .add 235 (ci 1)),om 27 236]))))) (rg [om 261 21,om 262 19,om 263 22,oq 264 (.ia 1 262 263),oq 265 (.load none 264),oq 266 (.ia 1 261 265),on (.store 1 266 (cb true))])))))) (rg [om 183 22,oq 184 (.bin .int .add 183 (ci 1)),om 22 184]))))) (.seq (rg [om 6 (cb true)]) (.ret))))))))))))) 
def tf311:TFunc:=⟨3,267,[.tmp 6],false,tc311,[]⟩
def zdu (a0:LD) (a1:LY) (a2:LI) (y5:(LC×Err)) (x6:Int):Option (LR Int Bool) :=
 jn (σ:=Bool) (α:=(LR Int Bool)) (br (decide (x6 < ((List.length a2:Nat):Int)))
 (zw (some (decide (x6 < (20:Int)))))
 (zw (some false))) fun x7 =>
 br x7
 (jn (σ:=Unit) (α:=(LR Int Bool)) (bno (zj a2 x6) fun y8 =>
 bno (F98 a0 y8) fun y9 =>
 br (!(Err.isNil y9.2))
 (zw (some ()))
 (bno (F330 a0 a1 y9.1) fun y10 =>
 jn (σ:=Bool) (α:=(Sum Unit (LR Int Bool))) (br (!(Err.isNil y10.2))
 (zw (some true))
 (bno (zj a2 x6) fun y11 =>
 br (decide (y11 < (0:Int)))
 (zw (some true))
 (bno (zj a2 x6) fun y12 =>
 br (decide (((List.length y5.1:Nat):Int)<=y12))
 (zw (some true))
 (bno (zj a2 x6) fun y13 =>
 bno (zj y5.1 y13) fun y14 =>
 zw (some (!(decide ((Cell.k y14)=(Cell.k y10.1)) && (decide ((Cell.n y14)=(Cell.n y10.1)) && true)))))))) fun x15 =>
 br x15
 (zfI (jx (some false)))
 (zw (some ())))) fun x16 =>
 nxO (some (wi (x6+(1:Int)))))
 (dnO (some x6))
def zdt (a0:LD) (a1:LY) (y5:(LC×Err)) (x18:Int):Option (LR Int Bool) :=
 br (decide (x18 < ((List.length a1:Nat):Int)))
 (bno (zj a1 x18) fun y19 =>
 bno (F132 a0 (Entry.at_ y19)) fun y20 =>
 jn (σ:=Bool) (α:=(LR Int Bool)) (br (!(Err.isNil y20.2))
 (zw (some true))
 (br (decide (y20.1 < (0:Int)))
 (zw (some true))
 (br (decide (((List.length y5.1:Nat):Int)<=y20.1))
 (zw (some true))
 (bno (zj y5.1 y20.1) fun y21 =>
 bno (zj a1 x18) fun y22 =>
 bno (F8 (Entry.n y22)) fun y23 =>
 zw (some (!(decide ((Cell.k y21)=(Cell.k y23)) && (decide ((Cell.n y21)=(Cell.n y23)) && true)))))))) fun x24 =>
 br x24
 (jx (some false))
 (nxO (some (wi (x18+(1:Int))))))
 (dnO (some x18))
def zds (y5:(LC×Err)) (x28:(Int×(List Bool))) (y31:(LI×Err)) (x37:Int):Option (LR Int (LR (Int×(List Bool)) Bool)) :=
 br (decide (x37 < ((List.length y31.1:Nat):Int)))
 (jn (σ:=Bool) (α:=(LR Int (LR (Int×(List Bool)) Bool))) (bno (zj y31.1 x37) fun y38 =>
 br (decide (y38 < (0:Int)))
 (zw (some true))
 (bno (zj y31.1 x37) fun y39 =>
 br (decide (((List.length y5.1:Nat):Int)<=y39))
 (zw (some true))
 (bno (zj y31.1 x37) fun y40 =>
 ck (decide (0<=y40∧y40 < ((List.length x28.2:Nat):Int))) <|
 bno ((x28.2)[(Int.toNat y40)]?) fun y41 =>
 zw (some (!y41))))) fun x42 =>
 br x42
 (jx (jx (some false)))
 (nxO (some (wi (x37+(1:Int))))))
 (dnO (some x37))
def zdr (a0:LD) (y5:(LC×Err)) (y26:(LI×Err)) (x28:(Int×(List Bool))):Option (LR (Int×(List Bool)) Bool) :=
 br (decide (x28.1 < ((List.length y26.1:Nat):Int)))
 (bno (zj y26.1 x28.1) fun y29 =>
 bno (F98 a0 y29) fun y30 =>
 bno (F328 a0 y30.1) fun y31 =>
 jn (σ:=Bool) (α:=(LR (Int×(List Bool)) Bool)) (br (!(Err.isNil y30.2))
 (zw (some true))
 (br (!(Err.isNil y31.2))
 (zw (some true))
 (bno (zj y26.1 x28.1) fun y32 =>
 br (decide (y32 < (0:Int)))
 (zw (some true))
 (bno (zj y26.1 x28.1) fun y33 =>
 br (decide (((List.length y5.1:Nat):Int)<=y33))
 (zw (some true))
 (bno (zj y26.1 x28.1) fun y34 =>
 ck (decide (0<=y34∧y34 < ((List.length x28.2:Nat):Int))) <|
 bno ((x28.2)[(Int.toNat y34)]?) fun y35 =>
 zw (some y35)))))) fun x36 =>
 br x36
 (jx (some false))
 (lp (zds y5 x28 y31) (0:Int) fun x43 =>
 bno (zj y26.1 x28.1) fun y44 =>
 ck (decide (0<=y44∧y44 < ((List.length x28.2:Nat):Int))) <|
 bno ((x28.2)[(Int.toNat y44)]?) fun y45 =>
 nxO (some (wi (x28.1+(1:Int)),List.set x28.2 (Int.toNat y44) true))))
 (dnO (some (x28.1,x28.2)))
def S311 (a0:LD) (a1:LY) (a2:LI):Option Bool :=
 bno (F332 ([Dim.mk (⟨#[97]⟩:ByteArray) (0:Int) ([Member.mk (⟨#[98]⟩:ByteArray) (-1:Int) (0:Int) (⟨#[]⟩:ByteArray),Member.mk (⟨#[99]⟩:ByteArray) (0:Int) (1:Int) (⟨#[]⟩:ByteArray)]:List Member)]:List Dim) ([Entry.mk ([(1:Int)]:List Int) (7:Int)]:List Entry)) fun y1 =>
 jn (σ:=Bool) (α:=Bool) (br (!(Err.isNil y1.2))
 (zw (some true))
 (br (decide (¬ ((List.length y1.1:Nat):Int)=(2:Int)))
 (zw (some true))
 (bno (zj y1.1 (0:Int)) fun y2 =>
 bno (F8 (7:Int)) fun y3 =>
 zw (some (!(decide ((Cell.k y2)=(Cell.k y3)) && (decide ((Cell.n y2)=(Cell.n y3)) && true))))))) fun x4 =>
 br x4
 (some false)
 (bno (F332 a0 a1) fun y5 =>
 br (!(Err.isNil y5.2))
 (some true)
 (lp (zdu F330 F98 a0 a1 a2 y5) (0:Int) fun x17 =>
 lp (zdt F132 F8 a0 a1 y5) (0:Int) fun x25 =>
 bno (F334 a0) fun y26 =>
 jn (σ:=Bool) (α:=Bool) (br (!(Err.isNil y26.2))
 (zw (some true))
 (zw (some (decide (¬ ((List.length y26.1:Nat):Int)=((List.length y5.1:Nat):Int)))))) fun x27 =>
 br x27
 (some false)
 (ck (decide (0<=((List.length y5.1:Nat):Int)∧((List.length y5.1:Nat):Int)<=((List.length y5.1:Nat):Int)∧((List.length y5.1:Nat):Int)<=zu)) <|
 lp (zdr F328 F98 a0 y5 y26) ((0:Int),List.replicate (Int.toNat ((List.length y5.1:Nat):Int)) false) fun x46 =>
 some true)))
def P311:=S311 P132 P328 P330 P332 P334 P8 P98
def k311:CSpec:=⟨311,[(.st .outl),(.sl .entry),(.sl .int)],.bool,fun x=>P311 x.1 x.2.1 x.2.2,false,[]⟩
theorem r311 {S:Seat} (h:Ok1 S 311 tf311):RtF S [k132,k328,k330,k332,k334,k8,k98] (Rt S k311):=okr h rfl fun x=>by kernel_rfl
end
end Ab
