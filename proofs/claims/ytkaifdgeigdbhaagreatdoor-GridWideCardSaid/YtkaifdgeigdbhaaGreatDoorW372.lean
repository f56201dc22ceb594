/-
  Functions of the program as typed code, what they come to, and their contracts: written by program (mk.py).
-/
import Derived.Test.YtkaifdgeigdbhaaGreatDoorJ1
import Derived.Test.YtkaifdgeigdbhaaGreatDoorJ3
set_option linter.unusedVariables false
namespace Ab
open Go
set_option maxRecDepth 100000
section
variable (F22:Int->(Option LD)) (F377:LD->LY->LI->Int->Int->(Option (Grid×Err))) (F381:LD->Grid->Int->Int->(Option ((List ByteArray)×Err)))
def tc372:TCode:=.seq (rg [om 2 (cb false)]) (.seq (.seq (.regionJ ⟨[.slot 12 .bool],[7,8,9,10,11],[],[]⟩ [om 7 0,oq 8 (.bin .int .lss 7 (ci 1)),om 9 8,og 10 (.mov 0) 9 false [],og 11 (.bin .int .gtr 10 (ci 9)) 9 false [],oq 12 (.pick 9 (cb true) 11)] [] false) (.cond 12 (.seq (rg [om 2 (cb true)]) (.ret)) (.skip))) (.seq (rg [om 14 0,oq 15 (.call true [] 22 [14]),oq 16 (.bslice false 1 [.int .i64 0] 2 [(0,(ci 0)),(1,(ci 0))]),oq 17 (.call true [] 377 [15,cn,16,(ci 0),(ci 1)]),om 13 17,oq 18 (.ext 13 0),oq 19 (.ext 13 1),oq 3 (.alloc [.slice none 0 0,.slice none 0 0,.slice none 0 0]),on (.store 3 3 18),om 4 19]) (.seq (.region [om 21 0,od 22 (.call true [] 22 [21]) [0],oq 23 (.load (some 3) 3),od 24 (.call true [] 381 [22,23,(ci 0),(ci 1)]) [1,2,1],od 20 (.mov 24) [3],od 25 (.ext 20 0) [4],od 26 (.ext 20 1) [4],od 5 (.mov 25) [5,3,0,1,2,3,4,5],od 6 (.mov 26) [6,7,0,1,2,3,4,5,6,7]] [] true) (.seq (.regionJ ⟨[.slot 2 .bool],[27,28,29,30,31,32,33,34,35,36,37,38,39,40,41,42,43,44,45,46,47,48,49,50,51,52,53,54,55,56,57,58,59,60,61,62,63],[],[]⟩ [om 27 4,oq 28 (.eqn false false 27),om 29 28,og 30 (.mov 6) 29 true [],og 31 (.eqn false false 30) 29 true [],oq 32 (.pick 29 31 (cb false)),om 33 32,og 34 (.fa 0 3) 33 true [],og 35 (.load none 34) 33 true [],og 36 (.len false 35) 33 true [],og 37 (.mov 0) 33 true [],og 38 (.bin .int .add 37 (ci 1)) 33 true [],og 39 (.bin .int .eql 36 38) 33 true [],oq 40 (.pick 33 39 (cb false)),om 41 40,og 42 (.fa 1 3) 41 true [],og 43 (.load none 42) 41 true [],og 44 (.len false 43) 41 true [],og 45 (.mov 0) 41 true [],og 46 (.bin .int .add 45 (ci 1)) 41 true [],og 47 (.bin .int .eql 44 46) 41 true [],oq 48 (.pick 41 47 (cb false)),om 49 48,og 50 (.fa 2 3) 49 true [],og 51 (.load none 50) 49 true [],og 52 (.len false 51) 49 true [],og 53 (.mov 0) 49 true [],og 54 (.bin .int .add 53 (ci 1)) 49 true [],og 55 (.bin .int .eql 52 54) 49 true [],oq 56 (.pick 49 55 (cb false)),om 57 56,og 58 (.mov 5) 57 true [],og 59 (.len false 58) 57 true [],og 60 (.mov 0) 57 true [],og 61 (.bin .int .add 60 (ci 2)) 57 true [],og 62 (.bin .int .eql 59 61) 57 true [],oq 63 (.pick 57 62 (cb false)),om 2 63] [] false) (.ret))))) 
def tf372:TFunc:=⟨1,64,[.tmp 2],false,tc372,[]⟩
noncomputable def S372 (a0:Int):Option Bool :=
 jn (σ:=Bool) (α:=Bool) (br (decide (a0 < (1:Int)))
 (zB (some true))
 (zB (some (decide ((9:Int) < a0))))) fun x1 =>
 br x1
 (some true)
 (bno (F22 a0) fun y2 =>
 bno (F377 y2 ([]:List Entry) ([(0:Int),(0:Int)]:List Int) (0:Int) (1:Int)) fun y3 =>
 bno (F22 a0) fun y4 =>
 bno (F381 y4 y3.1 (0:Int) (1:Int)) fun y5 =>
 jn (σ:=Bool) (α:=Bool) (br (Err.isNil y3.2)
 (br (Err.isNil y5.2)
 (br (decide (((List.length (Grid.rows y3.1):Nat):Int)=(wi (a0+(1:Int)))))
 (br (decide (((List.length (Grid.cols y3.1):Nat):Int)=(wi (a0+(1:Int)))))
 (br (decide (((List.length (Grid.cells y3.1):Nat):Int)=(wi (a0+(1:Int)))))
 (zB (some (decide (((List.length y5.1:Nat):Int)=(wi (a0+(2:Int)))))))
 (zB (some false)))
 (zB (some false)))
 (zB (some false)))
 (zB (some false)))
 (zB (some false))) fun x6 =>
 some x6)
theorem s372 (a0:Int):tf372.run [⟨22,[.int],(.st .outl),fun x=>F22 x,false,[]⟩,
 ⟨377,[(.st .outl),(.sl .entry),(.sl .int),.int,.int],(.tp [(.st .grid),.err]),fun x=>F377 x.1 x.2.1 x.2.2.1 x.2.2.2.1 x.2.2.2.2,false,[]⟩,
 ⟨381,[(.st .outl),(.st .grid),.int,.int],(.tp [(.sl .str),.err]),fun x=>F381 x.1 x.2.1 x.2.2.1 x.2.2.2,false,[]⟩] [.int] .bool a0=S372 F22 F377 F381 a0:=by kernel_rfl
end
end Ab
