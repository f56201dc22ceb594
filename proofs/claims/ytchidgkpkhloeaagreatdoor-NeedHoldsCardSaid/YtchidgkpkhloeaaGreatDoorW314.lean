/-
  Functions of the program as typed code, what they come to, and their contracts: written by program (mk.py).
-/
import Derived.Test.YtchidgkpkhloeaaGreatDoorMLf
set_option linter.unusedVariables false
noncomputable section
namespace Ab
open Go
set_option maxRecDepth 100000
section
variable (F132:LD->LI->(Option (Int×Err))) (F25:LD->LY->LI->Int->(Option (LY×Err))) (F317:LD->LI->(Option (LI×Err))) (F318:LD->(List LI)->(Option (LI×Err))) (F332:LD->LY->(Option (LC×Err))) (F339:LI->Int->(Option Bool))
def tc339:TCode:=.seq (rg [om 4 (cb false)]) (.seq (.seq (rg [om 5 (ci 0)]) (.loop ⟨[.slot 5 .int],[6,7,8,9,10,11,12,13,14,15,16,17],[],[]⟩ 0 (.seq (.seq (rg [om 6 5,om 7 0,oq 8 (.len false 7),oq 9 (.bin .int .lss 6 8)]) (.cond 9 (.skip) (.exit 0))) (.seq (.block 1 (.seq (rg [om 12 0,om 13 5,oq 14 (.ia 1 12 13),oq 15 (.load none 14),om 16 1,oq 17 (.bin .int .eql 15 16)]) (.cond 17 (.seq (rg [om 4 (cb true)]) (.ret)) (.skip)))) (rg [om 10 5,oq 11 (.bin .int .add 10 (ci 1)),om 5 11]))))) (.seq (rg [om 4 (cb false)]) (.ret))) 
def tf339:TFunc:=⟨2,18,[.tmp 4],false,tc339,[]⟩
def zin (a0:LI) (a1:Int) (x1:Int):Option (LR Int Bool) :=
 br (decide (x1 < ((List.length a0:Nat):Int)))
 (bno (zC a0 x1) fun y2 =>
 br (decide (y2=a1))
 (yh (some true))
 (nxO (some (wi (x1+(1:Int))))))
 (dnO (some x1))
def S339 (a0:LI) (a1:Int):Option Bool :=
 lp (zin a0 a1) (0:Int) fun x3 =>
 some false
def P339:=S339
def k339:CSpec:=⟨339,[(.sl .int),.int],.bool,fun x=>P339 x.1 x.2,false,[]⟩
theorem r339 {S:Seat} (h:Ok1 S 339 tf339):RtF S [] (Rt S k339):=okr h rfl fun x=>by kernel_rfl
def tc314:TCode:=.seq (rg [oq 5 (.box 0),om 10 (cb false)]) (.seq (.region [oq 30 (.build [.string ⟨#[]⟩,.int .i64 0,.int .i64 0,.string ⟨#[]⟩] [(0,1,(cs ⟨#[98]⟩)),(1,1,(ci (-1)))]),oq 31 (.build [.string ⟨#[]⟩,.int .i64 0,.int .i64 0,.string ⟨#[]⟩] [(0,1,(cs ⟨#[99]⟩)),(1,1,(ci 0)),(2,1,(ci 1))]),oq 32 (.bslice false 4 [.string ⟨#[]⟩,.int .i64 0,.int .i64 0,.string ⟨#[]⟩] 2 [(0,30),(1,31)]),oq 33 (.build [.string ⟨#[]⟩,.int .i64 0,.slice none 0 0] [(0,1,(cs ⟨#[97]⟩)),(2,1,32)]),oq 34 (.bslice true 3 [.string ⟨#[]⟩,.int .i64 0,.slice none 0 0] 1 [(0,33)]),oq 35 (.build [.slice none 0 0] [(0,1,34)]),oq 11 (.alloc [.slice none 0 0]),on (.store 1 11 35)] [.int,.int,.member,.int,.dim] false) (.seq (.region [oq 37 (.load (some 1) 11),oq 38 (.bslice false 1 [.int .i64 0] 1 [(0,(ci 1))]),oq 39 (.bslice true 1 [.slice none 0 0] 1 [(0,38)]),oq 40 (.call true [] 318 [37,39]),om 36 40,oq 41 (.ext 36 0),oq 42 (.ext 36 1),om 12 41,om 13 42] [.int,.int,(.sl .int)] false) (.seq (.seq (.regionJ ⟨[.slot 49 .bool],[43,44,45,46,47,48],[],[]⟩ [om 43 13,oq 44 (.eqn false true 43),om 45 44,og 46 (.mov 12) 45 false [],og 47 (.len false 46) 45 false [],og 48 (.bin .int .neq 47 (ci 2)) 45 false [],oq 49 (.pick 45 (cb true) 48)] [] false) (.cond 49 (.seq (rg [om 10 (cb false)]) (.ret)) (.skip))) (.seq (rg [oq 51 (.load (some 1) 5),om 52 1,om 53 2,om 54 3,oq 55 (.call true [] 25 [51,52,53,54]),om 50 55,oq 56 (.ext 50 0),oq 57 (.ext 50 1),om 14 56,om 15 57]) (.seq (.seq (rg [om 58 15,oq 59 (.eqn false true 58)]) (.cond 59 (.seq (rg [om 10 (cb true)]) (.ret)) (.skip))) (.seq (rg [oq 61 (.load (some 1) 5),om 62 1,oq 63 (.call true [] 332 [61,62]),om 60 63,oq 64 (.ext 60 0),oq 65 (.ext 60 1),om 16 64,om 17 65]) (.seq (rg [oq 67 (.load (some 1) 5),om 68 14,oq 69 (.call true [] 332 [67,68]),om 66 69,oq 70 (.ext 66 0),oq 71 (.ext 66 1),om 18 70,om 19 71]) (.seq (.seq (.regionJ ⟨[.slot 77 .bool],[72,73,74,75,76],[],[]⟩ [om 72 17,oq 73 (.eqn false true 72),om 74 73,og 75 (.mov 19) 74 false [],og 76 (.eqn false true 75) 74 false [],oq 77 (.pick 74 (cb true) 76)] [] false) (.cond 77 (.seq (.region [om 78 17,od 79 (.eqn false false 78) [0],om 80 19,od 81 (.eqn false false 80) [2],od 82 (.bin .bool .eql 79 81) [1,3],od 10 (.mov 82) [4,0,1,2,3,4]] [] true) (.ret)) (.skip))) (.seq (.region [oq 84 (.load (some 1) 5),om 85 2,oq 86 (.bslice true 1 [.slice none 0 0] 1 [(0,85)]),oq 87 (.call true [] 318 [84,86]),om 83 87,oq 88 (.ext 83 0),oq 89 (.ext 83 1),om 20 88,om 21 89] [.int,.int,(.sl .int)] false) (.seq (.seq (.regionJ ⟨[.slot 98 .bool],[90,91,92,93,94,95,96,97],[],[]⟩ [om 90 21,oq 91 (.eqn false true 90),om 92 91,og 93 (.mov 16) 92 false [],og 94 (.len false 93) 92 false [],og 95 (.mov 18) 92 false [],og 96 (.len false 95) 92 false [],og 97 (.bin .int .neq 94 96) 92 false [],oq 98 (.pick 92 (cb true) 97)] [] false) (.cond 98 (.seq (rg [om 10 (cb false)]) (.ret)) (.skip))) (.seq (.seq (rg [om 22 (ci 0)]) (.loop ⟨[.slot 22 .int],[23,99,100,101,102,103,104,105,106,107,108,109,110,111,112,113,114,115,116,117,118,119,120],[],[]⟩ 0 (.seq (.seq (rg [om 99 22,om 100 16,oq 101 (.len false 100),oq 102 (.bin .int .lss 99 101)]) (.cond 102 (.skip) (.exit 0))) (.seq (.block 1 (.seq (rg [om 105 20,om 106 22,oq 107 (.call false [] 339 [105,106]),om 23 107]) (.seq (.regionJ ⟨[.slot 120 .bool],[108,109,110,111,112,113,114,115,116,117,118,119],[],[]⟩ [om 108 23,od 109 (.un .not 108) [0],od 110 (.mov 109) [1],og 111 (.mov 16) 110 true [2],og 112 (.mov 22) 110 true [2],og 113 (.ia 2 111 112) 110 true [3,4,2],og 114 (.load (some 2) 113) 110 true [5,2],og 115 (.mov 18) 110 true [2],og 116 (.mov 22) 110 true [2],og 117 (.ia 2 115 116) 110 true [7,8,2],og 118 (.load (some 2) 117) 110 true [9,2],og 119 (.eqa true [(0,.int),(1,.int)] 114 118) 110 true [6,10,2],od 120 (.pick 110 119 (cb false)) [2,11]] [] true) (.cond 120 (.seq (rg [om 10 (cb false)]) (.ret)) (.skip))))) (rg [om 103 22,oq 104 (.bin .int .add 103 (ci 1)),om 22 104]))))) (.seq (rg [oq 122 (.load (some 1) 5),om 123 4,oq 124 (.call false [] 132 [122,123]),om 121 124,oq 125 (.ext 121 0),oq 126 (.ext 121 1),om 24 125,om 17 126]) (.seq (rg [oq 128 (.load (some 1) 5),om 129 2,oq 130 (.call false [] 132 [128,129]),om 127 130,oq 131 (.ext 127 0),oq 132 (.ext 127 1),om 25 131,om 19 132]) (.seq (rg [oq 134 (.load (some 1) 5),om 135 4,oq 136 (.call true [] 317 [134,135]),om 133 136,oq 137 (.ext 133 0),oq 138 (.ext 133 1),om 26 137,om 27 138]) (.seq (.seq (rg [om 139 17,oq 140 (.eqn false true 139)]) (.cond 140 (.seq (rg [om 141 27,oq 142 (.eqn false true 141),om 10 142]) (.ret)) (.skip))) (.seq (rg [om 143 26,om 144 25,oq 145 (.call false [] 339 [143,144]),om 28 145]) (.seq (rg [om 146 20,om 147 24,oq 148 (.call false [] 339 [146,147]),om 29 148]) (.seq (.regionJ ⟨[.slot 10 .bool],[149,150,151,152,153,154,155,156,157,158,159],[],[]⟩ [om 149 19,oq 150 (.eqn false false 149),om 151 150,og 152 (.mov 27) 151 true [],og 153 (.eqn false false 152) 151 true [],oq 154 (.pick 151 153 (cb false)),om 155 154,og 156 (.mov 28) 155 true [],og 157 (.mov 29) 155 true [],og 158 (.bin .bool .eql 156 157) 155 true [],oq 159 (.pick 155 158 (cb false)),om 10 159] [] false) (.ret))))))))))))))))))) 
def tf314:TFunc:=⟨5,160,[.tmp 10],false,tc314,[]⟩
def zdO (y4:(LC×Err)) (y5:(LC×Err)) (y7:(LI×Err)) (x9:Int):Option (LR Int Bool) :=
 br (decide (x9 < ((List.length y4.1:Nat):Int)))
 (bno (F339 y7.1 x9) fun y10 =>
 jn (σ:=Bool) (α:=(LR Int Bool)) (br (!y10)
 (bno (zC y4.1 x9) fun y11 =>
 bno (zC y5.1 x9) fun y12 =>
 zE (some (!(decide ((Cell.k y11)=(Cell.k y12)) && (decide ((Cell.n y11)=(Cell.n y12)) && true)))))
 (zE (some false))) fun x13 =>
 br x13
 (yh (some false))
 (nxO (some (wi (x9+(1:Int))))))
 (dnO (some x9))
def S314 (a0:LD) (a1:LY) (a2:LI) (a3:Int) (a4:LI):Option Bool :=
 bno (F318 ([Dim.mk (⟨#[97]⟩:ByteArray) (0:Int) ([Member.mk (⟨#[98]⟩:ByteArray) (-1:Int) (0:Int) (⟨#[]⟩:ByteArray),Member.mk (⟨#[99]⟩:ByteArray) (0:Int) (1:Int) (⟨#[]⟩:ByteArray)]:List Member)]:List Dim) ([([(1:Int)]:List Int)]:List (List Int))) fun y1 =>
 jn (σ:=Bool) (α:=Bool) (br (!(Err.isNil y1.2))
 (zE (some true))
 (zE (some (decide (¬ ((List.length y1.1:Nat):Int)=(2:Int)))))) fun x2 =>
 br x2
 (some false)
 (bno (F25 a0 a1 a2 a3) fun y3 =>
 br (!(Err.isNil y3.2))
 (some true)
 (bno (F332 a0 a1) fun y4 =>
 bno (F332 a0 y3.1) fun y5 =>
 jn (σ:=Bool) (α:=Bool) (br (!(Err.isNil y4.2))
 (zE (some true))
 (zE (some (!(Err.isNil y5.2))))) fun x6 =>
 br x6
 (some (decide ((Err.isNil y4.2)=(Err.isNil y5.2))))
 (bno (F318 a0 ([a2]:List (List Int))) fun y7 =>
 jn (σ:=Bool) (α:=Bool) (br (!(Err.isNil y7.2))
 (zE (some true))
 (zE (some (decide (¬ ((List.length y4.1:Nat):Int)=((List.length y5.1:Nat):Int)))))) fun x8 =>
 br x8
 (some false)
 (lp (zdO F339 y4 y5 y7) (0:Int) fun x14 =>
 bno (F132 a0 a4) fun y15 =>
 bno (F132 a0 a2) fun y16 =>
 bno (F317 a0 a4) fun y17 =>
 br (!(Err.isNil y15.2))
 (some (!(Err.isNil y17.2)))
 (bno (F339 y17.1 y16.1) fun y18 =>
 bno (F339 y7.1 y15.1) fun y19 =>
 jn (σ:=Bool) (α:=Bool) (br (Err.isNil y16.2)
 (br (Err.isNil y17.2)
 (zE (some (decide (y18=y19))))
 (zE (some false)))
 (zE (some false))) fun x20 =>
 some x20)))))
def P314:=S314 P132 P25 P317 P318 P332 P339
def k314:CSpec:=⟨314,[(.st .outl),(.sl .entry),(.sl .int),.int,(.sl .int)],.bool,fun x=>P314 x.1 x.2.1 x.2.2.1 x.2.2.2.1 x.2.2.2.2,false,[]⟩
theorem r314 {S:Seat} (h:Ok1 S 314 tf314):RtF S [k132,k25,k317,k318,k332,k339] (Rt S k314):=okr h rfl fun x=>by kernel_rfl
end
end Ab
