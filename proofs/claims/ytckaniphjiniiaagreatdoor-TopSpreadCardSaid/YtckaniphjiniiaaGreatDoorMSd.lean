/-
  Functions of the program as typed code, what they come to, and their contracts: written by program (mk.py).
-/
import Derived.Test.YtckaniphjiniiaaGreatDoorF4
set_option linter.all false
noncomputable section
namespace Ab
open Go
set_option maxRecDepth 100000
section
variable (F123:LD->LI->(Option Int)) (F126:LD->LI->(Option (List LI))) (F129:LD->LI->LI->(Option (Int×Bool))) (F134:LY->LI->(Option Cell)) (F28:LI->LI->(Option Bool)) (F335:LD->LY->(Option Int)) (F383:Int->Int->(Option (LI×Int))) (F385:Int->LI->(Option (LI×Int))) (F392:Int->(Option Bool))
def tc392:TCode:=.seq (rg [om 2 (cb false)]) (.seq (.regionJ ⟨[.slot 2 .bool],[3,4,5,6,7,8],[],[]⟩ [om 3 0,oq 4 (Bi .geq 3 (ci 0)),om 5 4,og 6 (.mov 0) 5 true [],og 7 (Bi .leq 6 (ci 1000000)) 5 true [],oq 8 (.pick 5 7 (cb false)),om 2 8] [] false) .ret) 
def tf392:TFunc:=⟨1,9,[.tmp 2],false,tc392,[]⟩
def S392 (a0:Int):Option Bool :=
 jn (σ:=Bool) (α:=Bool) (br (decide ((0:Int)<=a0))
 (zt (some (decide (a0<=(1000000:Int)))))
 (zt (some false))) fun x1 =>
 some x1
def P392:=S392
def k392:CSpec:=⟨392,[.int],.bool,fun x=>P392 x,false,[]⟩
def r392 {S:Seat} (h:Ok1 S 392 tf392):RtF S [] (Rt S k392):=okr h
def tc384:TCode:=.seq (rg [om 4 cn,om 5 cz]) (.seq (.seq (.regionJ ⟨[.slot 18 .bool],[8,9,10,11,12,13,14,15,16,17],[],[]⟩ [om 8 0,oq 9 (Cl 392 [8]),oq 10 (.un .not 9),om 11 10,og 12 (.mov 1) 11 false [],og 13 (Bi .lss 12 (ci 1)) 11 false [],oq 14 (.pick 11 (cb true) 13),om 15 14,og 16 (.mov 1) 15 false [],og 17 (Bi .gtr 16 (ci 60)) 15 false [],oq 18 (.pick 15 (cb true) 17)] [] false) (.cond 18 (.seq (rg [oq 19 (.ifc 1 (ci 1)),om 4 cn,om 5 19]) .ret) .skip)) (.seq (rg [om 20 1,oq 21 (.mksl 1 [.int .i64 0] 20 20),om 6 21]) (.seq (.seq (rg [om 22 6,oq 23 (Ln 22),om 24 (ci 0)]) (.loop ⟨[.slot 24 .int,.rowH 21 .int],[7,25,26,27,28,29,30,31,32,33,34,35,36,37,38,39,40,41,42,43,44],[],[]⟩ 0 (.seq (rg [oq 25 (Bi .lss 24 23)]) (.seq (.cond 25 .skip (.exit 0)) (.seq (.block 1 (.seq (rg [om 26 24,om 7 26]) (.seq (rg [om 27 6,om 28 7,om 29 0,om 30 1,oq 31 (Bi .quo 29 30),oq 32 (.ia 1 27 28),on (.store 1 32 31)]) (.seq (rg [om 33 7,om 34 0,om 35 1,oq 36 (Bi .rem 34 35),oq 37 (Bi .lss 33 36)]) (.condJ ⟨[.rowH 21 .int],[38,39,40,41,42,43],[],[]⟩ 37 (rg [om 38 6,om 39 7,oq 40 (.ia 1 38 39),oq 41 (Ld 40),oq 42 (Bi .add 41 (ci 1)),oq 43 (.ia 1 38 39),on (.store 1 43 42)]) .skip))))) (rg [oq 44 (Bi .add 24 (ci 1)),om 24 44])))))) (.seq (rg [om 45 6,om 4 45,om 5 cz]) .ret)))) 
def tf384:TFunc:=⟨2,46,[.tmp 4,.tmp 5],false,tc384,[]⟩
def zhI (a0:Int) (a1:Int) (x3:(Int×LI)):Option (LR (Int×LI) (LI×Err)) :=
 br (decide (x3.1<((List.replicate (Int.toNat a1) (0:Int)).length:Int)))
 (ck (decide (¬a1=0)) <|
 ck (decide (0<=x3.1∧x3.1<(x3.2.length:Int))) <|
 bno ((x3.2)[(Int.toNat x3.1)]?) fun y4 =>
 ck (decide (¬a1=0)) <|
 jn (σ:=(List Int)) (α:=(LR (Int×(List Int)) ((List Int)×Err))) (br (decide (x3.1<(Int.tmod a0 a1)))
 (ck (decide (0<=x3.1∧x3.1<((List.length (List.set x3.2 (Int.toNat x3.1) (wi (Int.tdiv a0 a1))):Nat):Int))) <|
 bno ((List.set x3.2 (Int.toNat x3.1) (wi (Int.tdiv a0 a1)))[(Int.toNat x3.1)]?) fun y5 =>
 ck (decide (0<=x3.1∧x3.1<((List.length (List.set x3.2 (Int.toNat x3.1) (wi (Int.tdiv a0 a1))):Nat):Int))) <|
 bno ((List.set x3.2 (Int.toNat x3.1) (wi (Int.tdiv a0 a1)))[(Int.toNat x3.1)]?) fun y6 =>
 zt (some (List.set (List.set x3.2 (Int.toNat x3.1) (wi (Int.tdiv a0 a1))) (Int.toNat x3.1) (wi (y5+(1:Int))))))
 (zt (some (List.set x3.2 (Int.toNat x3.1) (wi (Int.tdiv a0 a1)))))) fun x7 =>
 nxO (some (wi (x3.1+(1:Int)),x7)))
 (dnO (some (x3.1,x3.2)))
def S384 (a0:Int) (a1:Int):Option (LI×Err) :=
 jn (σ:=Bool) (α:=((List Int)×Err)) (bno (F392 a0) fun y1 =>
 br (!y1)
 (zt (some true))
 (br (decide (a1<(1:Int)))
 (zt (some true))
 (zt (some (decide ((60:Int)<a1)))))) fun x2 =>
 br x2
 (some (([]:List Int),Err.no (1:Int)))
 (ck (decide (0<=a1∧a1<=a1∧a1<=zC)) <|
 lp (zhI a0 a1) ((0:Int),List.replicate (Int.toNat a1) (0:Int)) fun x8 =>
 some (x8.2,Err.nil))
def P384:=S384 P392
def k384:CSpec:=⟨384,[.int,.int],(.tp [(.sl .int),.err]),fun x=>P384 x.1 x.2,false,[]⟩
def r384 {S:Seat} (h:Ok1 S 384 tf384):RtF S [k392] (Rt S k384):=okr h
end
end Ab
