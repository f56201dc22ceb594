/-
  Functions of the program as typed code, what they come to, and their contracts: written by program (mk.py).
-/
import Derived.Test.YtchidgkpkhloeaaGreatDoorMLf
set_option linter.unusedVariables false
noncomputable section
namespace Ab
open Go
set_option maxRecDepth 100000
section
variable (F22:Int->(Option LD)) (F317:LD->LI->(Option (LI×Err))) (F318:LD->(List LI)->(Option (LI×Err)))
def tc305:TCode:=.seq (rg [om 6 (cb false)]) (.seq (.seq (.regionJ ⟨[.slot 35 .bool],[12,13,14,15,16,17,18,19,20,21,22,23,24,25,26,27,28,29,30,31,32,33,34],[],[]⟩ [om 12 0,oq 13 (.bin .int .lss 12 (ci 1)),om 14 13,og 15 (.mov 0) 14 false [],og 16 (.bin .int .gtr 15 (ci 9)) 14 false [],oq 17 (.pick 14 (cb true) 16),om 18 17,og 19 (.mov 1) 18 false [],og 20 (.bin .int .lss 19 (ci 1)) 18 false [],oq 21 (.pick 18 (cb true) 20),om 22 21,og 23 (.mov 1) 22 false [],og 24 (.mov 0) 22 false [],og 25 (.bin .int .gtr 23 24) 22 false [],oq 26 (.pick 22 (cb true) 25),om 27 26,og 28 (.mov 2) 27 false [],og 29 (.bin .int .lss 28 (ci 1)) 27 false [],oq 30 (.pick 27 (cb true) 29),om 31 30,og 32 (.mov 2) 31 false [],og 33 (.mov 0) 31 false [],og 34 (.bin .int .gtr 32 33) 31 false [],oq 35 (.pick 31 (cb true) 34)] [] false) (.cond 35 (.seq (rg [om 6 (cb true)]) (.ret)) (.skip))) (.seq (rg [om 36 0,oq 37 (.call true [] 22 [36]),oq 7 (.alloc [.slice none 0 0]),on (.store 1 7 37)]) (.seq (rg [oq 39 (.load (some 1) 7),oq 40 (.bslice false 1 [.int .i64 0] 2 [(0,(ci 0)),(1,(ci 0))]),oq 41 (.call true [] 317 [39,40]),om 38 41,oq 42 (.ext 38 0),oq 43 (.ext 38 1),om 8 42,om 9 43]) (.seq (.region [oq 45 (.load (some 1) 7),om 46 1,om 47 2,oq 48 (.bslice false 1 [.int .i64 0] 2 [(0,46),(1,47)]),oq 49 (.bslice true 1 [.slice none 0 0] 1 [(0,48)]),oq 50 (.call true [] 318 [45,49]),om 44 50,oq 51 (.ext 44 0),oq 52 (.ext 44 1),om 10 51,om 11 52] [.int,.int,.int,.int,(.sl .int)] false) (.seq (.regionJ ⟨[.slot 6 .bool],[53,54,55,56,57,58,59,60,61,62,63,64,65,66,67,68,69,70,71,72,73,74,75,76,77,78,79,80,81,82,83,84,85,86,87,88,89],[],[]⟩ [om 53 9,oq 54 (.eqn false false 53),om 55 54,og 56 (.mov 11) 55 true [],og 57 (.eqn false false 56) 55 true [],oq 58 (.pick 55 57 (cb false)),om 59 58,og 60 (.mov 8) 59 true [],og 61 (.len false 60) 59 true [],og 62 (.mov 0) 59 true [],og 63 (.mov 0) 59 true [],og 64 (.bin .int .mul 62 63) 59 true [],og 65 (.bin .int .eql 61 64) 59 true [],oq 66 (.pick 59 65 (cb false)),om 67 66,og 68 (.mov 10) 67 true [],og 69 (.len false 68) 67 true [],og 70 (.bin .int .eql 69 (ci 4)) 67 true [],oq 71 (.pick 67 70 (cb false)),om 72 71,og 73 (.mov 10) 72 true [],og 74 (.ia 1 73 (ci 0)) 72 true [],og 75 (.load none 74) 72 true [],og 76 (.bin .int .eql 75 (ci 0)) 72 true [],oq 77 (.pick 72 76 (cb false)),om 78 77,og 79 (.mov 10) 78 true [],og 80 (.ia 1 79 (ci 3)) 78 true [],og 81 (.load none 80) 78 true [],og 82 (.mov 1) 78 true [],og 83 (.mov 0) 78 true [],og 84 (.bin .int .add 83 (ci 1)) 78 true [],og 85 (.bin .int .mul 82 84) 78 true [],og 86 (.mov 2) 78 true [],og 87 (.bin .int .add 85 86) 78 true [],og 88 (.bin .int .eql 81 87) 78 true [],oq 89 (.pick 78 88 (cb false)),om 6 89] [] false) (.ret)))))) 
def tf305:TFunc:=⟨3,90,[.tmp 6],false,tc305,[]⟩
def S305 (a0:Int) (a1:Int) (a2:Int):Option Bool :=
 jn (σ:=Bool) (α:=Bool) (br (decide (a0 < (1:Int)))
 (zx (some true))
 (br (decide ((9:Int) < a0))
 (zx (some true))
 (br (decide (a1 < (1:Int)))
 (zx (some true))
 (br (decide (a0 < a1))
 (zx (some true))
 (br (decide (a2 < (1:Int)))
 (zx (some true))
 (zx (some (decide (a0 < a2))))))))) fun x1 =>
 br x1
 (some true)
 (bno (F22 a0) fun y2 =>
 bno (F317 y2 ([(0:Int),(0:Int)]:List Int)) fun y3 =>
 bno (F318 y2 ([([a1,a2]:List Int)]:List (List Int))) fun y4 =>
 jn (σ:=Bool) (α:=Bool) (br (Err.isNil y3.2)
 (br (Err.isNil y4.2)
 (br (decide (((List.length y3.1:Nat):Int)=(wi (a0 * a0))))
 (br (decide (((List.length y4.1:Nat):Int)=(4:Int)))
 (bno (zq y4.1 (0:Int)) fun y5 =>
 br (decide (y5=(0:Int)))
 (bno (zq y4.1 (3:Int)) fun y6 =>
 zx (some (decide (y6=(wi ((wi (a1 * (wi (a0+(1:Int)))))+a2))))))
 (zx (some false)))
 (zx (some false)))
 (zx (some false)))
 (zx (some false)))
 (zx (some false))) fun x7 =>
 some x7)
def P305:=S305 P22 P317 P318
def k305:CSpec:=⟨305,[.int,.int,.int],.bool,fun x=>P305 x.1 x.2.1 x.2.2,false,[]⟩
theorem r305 {S:Seat} (h:Ok1 S 305 tf305):RtF S [k22,k317,k318] (Rt S k305):=okr h rfl fun x=>by kernel_rfl
end
end Ab
