/-
  Functions of the program as typed code, what they come to, and their contracts: written by program (mk.py).
-/
import Derived.Test.YtchidgkpkhloeaaGreatDoorH7
import Derived.Test.YtchidgkpkhloeaaGreatDoorHO
set_option linter.unusedVariables false
noncomputable section
namespace Ab
open Go
set_option maxRecDepth 100000
section
variable (F123:LD->LI->(Option Int)) (F140:LD->LI->(Option Int)) (F324:LD->(Option Int)) (F330:LD->LY->LI->(Option (Cell×Err))) (F331:LD->LI->(Option (Int×Err))) (F335:LD->LY->(Option Int)) (F336:LD->LY->(Option LC)) (F337:LD->LI->(Option Int)) (F92:Err->Int->(Option Bool))
def tc312:TCode:=.seq (rg [oq 3 (.box 0),om 6 (cb false)]) (.seq (rg [oq 15 (.load (some 1) 3),om 16 1,oq 17 (.call false [] 335 [15,16]),om 7 17]) (.seq (.seq (rg [om 18 7,oq 19 (.bin .int .eql 18 (ci 0))]) (.condJ ⟨[.slot 7 .int],[20,21,22],[],[]⟩ 19 (rg [oq 20 (.load (some 1) 3),om 21 2,oq 22 (.call false [] 123 [20,21]),om 7 22]) (.skip))) (.seq (rg [oq 8 (.alloc [.int .i64 0,.int .i64 0])]) (.seq (.seq (rg [om 23 7,oq 24 (.bin .int .eql 23 (ci 0))]) (.condJ ⟨[.var 8 [.sh .int,.sh .int]],[25,26,27,28,29,30,31,32],[],[]⟩ 24 (.region [oq 25 (.load (some 1) 3),om 26 1,od 27 (.call true [] 336 [25,26]) [0,1],oq 28 (.load (some 1) 3),om 29 2,od 30 (.call false [] 140 [28,29]) [3,4,2],od 31 (.ia 2 27 30) [2,5],od 32 (.load (some 2) 31) [6],⟨none,.store 2 8 32,none,[7,5,0,1,2,3,4,5,6,7]⟩] [] true) (.skip))) (.seq (rg [oq 34 (.load (some 1) 3),om 35 1,om 36 2,oq 37 (.call false [] 330 [34,35,36]),om 33 37,oq 38 (.ext 33 0),oq 39 (.ext 33 1),oq 9 (.alloc [.int .i64 0,.int .i64 0]),on (.store 2 9 38),om 10 39]) (.seq (rg [om 40 10,om 41 7,oq 42 (.call false [] 92 [40,41]),om 11 42]) (.seq (rg [oq 43 (.load (some 1) 3),oq 44 (.call false [] 324 [43]),om 7 44]) (.seq (.seq (rg [om 45 7,oq 46 (.bin .int .eql 45 (ci 0))]) (.condJ ⟨[.slot 7 .int],[47,48,49],[],[]⟩ 46 (rg [oq 47 (.load (some 1) 3),om 48 2,oq 49 (.call false [] 123 [47,48]),om 7 49]) (.skip))) (.seq (rg [om 12 (ci 0)]) (.seq (.seq (rg [om 50 7,oq 51 (.bin .int .eql 50 (ci 0))]) (.condJ ⟨[.slot 12 .int],[52,53,54],[],[]⟩ 51 (rg [oq 52 (.load (some 1) 3),om 53 2,oq 54 (.call false [] 337 [52,53]),om 12 54]) (.skip))) (.seq (rg [oq 56 (.load (some 1) 3),om 57 2,oq 58 (.call false [] 331 [56,57]),om 55 58,oq 59 (.ext 55 0),oq 60 (.ext 55 1),om 13 59,om 10 60]) (.seq (rg [om 61 10,om 62 7,oq 63 (.call false [] 92 [61,62]),om 14 63]) (.seq (.regionJ ⟨[.slot 6 .bool],[64,65,66,67,68,69,70,71,72,73,74,75,76,77],[],[]⟩ [om 64 11,om 65 64,og 66 (.mov 14) 65 true [],oq 67 (.pick 65 66 (cb false)),om 68 67,og 69 (.load (some 2) 9) 68 true [],og 70 (.load (some 2) 8) 68 true [],og 71 (.eqa false [(0,.int),(1,.int)] 69 70) 68 true [],oq 72 (.pick 68 71 (cb false)),om 73 72,og 74 (.mov 13) 73 true [],og 75 (.mov 12) 73 true [],og 76 (.bin .int .eql 74 75) 73 true [],oq 77 (.pick 73 76 (cb false)),om 6 77] [] false) (.ret)))))))))))))) 
def tf312:TFunc:=⟨3,78,[.tmp 6],false,tc312,[]⟩
def S312 (a0:LD) (a1:LY) (a2:LI):Option Bool :=
 bno (F335 a0 a1) fun y1 =>
 jn (σ:=Int) (α:=Bool) (br (decide (y1=(0:Int)))
 (bno (F123 a0 a2) fun y2 =>
 zt (some y2))
 (zt (some y1))) fun x3 =>
 jn (σ:=(Int×Int)) (α:=Bool) (br (decide (x3=(0:Int)))
 (bno (F336 a0 a1) fun y4 =>
 bno (F140 a0 a2) fun y5 =>
 bno (zn y4 y5) fun y6 =>
 zt (some (Cell.k y6,Cell.n y6)))
 (zt (some ((0:Int),(0:Int))))) fun x7 =>
 bno (F330 a0 a1 a2) fun y8 =>
 bno (F92 y8.2 x3) fun y9 =>
 bno (F324 a0) fun y10 =>
 jn (σ:=Int) (α:=Bool) (br (decide (y10=(0:Int)))
 (bno (F123 a0 a2) fun y11 =>
 zt (some y11))
 (zt (some y10))) fun x12 =>
 jn (σ:=Int) (α:=Bool) (br (decide (x12=(0:Int)))
 (bno (F337 a0 a2) fun y13 =>
 zt (some y13))
 (zt (some (0:Int)))) fun x14 =>
 bno (F331 a0 a2) fun y15 =>
 bno (F92 y15.2 x12) fun y16 =>
 jn (σ:=Bool) (α:=Bool) (br y9
 (br y16
 (br (decide ((Cell.k y8.1)=x7.1) && (decide ((Cell.n y8.1)=x7.2) && true))
 (zt (some (decide (y15.1=x14))))
 (zt (some false)))
 (zt (some false)))
 (zt (some false))) fun x17 =>
 some x17
def P312:=S312 P123 P140 P324 P330 P331 P335 P336 P337 P92
def k312:CSpec:=⟨312,[(.st .outl),(.sl .entry),(.sl .int)],.bool,fun x=>P312 x.1 x.2.1 x.2.2,false,[]⟩
theorem r312 {S:Seat} (h:Ok1 S 312 tf312):RtF S [k123,k140,k324,k330,k331,k335,k336,k337,k92] (Rt S k312):=okr h rfl fun x=>by kernel_rfl
end
end Ab
