/-
  Functions of the program as typed code, what they come to, and their contracts: written by program (mk.py).
-/
import Derived.Test.YtcknjppeompbkaaGreatDoorMO
set_option linter.all false
noncomputable section
namespace Ab
open Go
set_option maxRecDepth 100000
section
variable (F15:Dim->(Option (Int×Err))) (F43:Dim->LI->(Option Err)) (F44:Dim->Int->(Option Bool)) (F45:Dim->Int->Int->(Option (Int×Bool))) (F46:Dim->Int->(Option LI)) (F47:Dim->Int->(Option LI)) (F48:Dim->Int->(Option LI))
def tc47:TCode:=.seq (rg [oq 2 (.box 0),om 4 cn]) (.seq (.seq (rg [oq 7 (.fa 2 2),oq 8 (.load none 7),oq 9 (.len false 8),om 10 (ci 0)]) (.loop ⟨[.row 4 22 .int,.slot 10 .int],[5,6,11,12,13,14,15,16,17,18,19,20,21,22,23],[6,21],[]⟩ 0 (.seq (rg [oq 11 (.bin .int .lss 10 9)]) (.seq (.cond 11 (.skip) (.exit 0)) (.seq (.block 1 (.seq (rg [om 12 10,oq 13 (.ia 4 8 10),oq 14 (.load (some 4) 13),oq 6 (.alloc [.string ⟨#[]⟩,.int .i64 0,.int .i64 0,.string ⟨#[]⟩]),om 5 12,on (.store 4 6 14)]) (.seq (rg [oq 15 (.fa 1 6),oq 16 (.load none 15),om 17 1,oq 18 (.bin .int .eql 16 17)]) (.condJ ⟨[.row 4 22 .int],[19,20,21,22],[21],[]⟩ 18 (rg [om 19 4,om 20 5,oq 21 (.bslice false 1 [.int .i64 0] 1 [(0,20)]),oq 22 (.app 1 19 21),om 4 22]) (.skip))))) (rg [oq 23 (.bin .int .add 10 (ci 1)),om 10 23])))))) (.seq (rg [om 24 4,om 4 24]) (.ret))) 
def tf47:TFunc:=⟨2,25,[.tmp 4],false,tc47,[]⟩
def S47_L1 (a0:Dim) (a1:Int) (x1:(LI×Int)):Option (LR (LI×Int) LI) :=
 br (decide (x1.2 < ((Dim.members a0).length:Int)))
 (bno (qb (Dim.members a0) x1.2) fun y2 =>
 jn (σ:=(List Int)) (α:=(LR ((List Int)×Int) (List Int))) (br (decide ((Member.parent y2)=a1))
 (ck (decide (List.length x1.1+List.length ([x1.2]:List Int)<=qB)) <|
 zD (some (x1.1++([x1.2]:List Int))))
 (zD (some x1.1))) fun x3 =>
 nxO (some (x3,wi (x1.2+(1:Int)))))
 (dnO (some (x1.1,x1.2)))
def S47 (a0:Dim) (a1:Int):Option LI :=
 lp (S47_L1 a0 a1) (([]:List Int),(0:Int)) fun x4 =>
 some x4.1
def P47:=S47
def k47:CSpec:=⟨47,[(.st .dim),.int],(.sl .int),fun x=>P47 x.1 x.2,false,[]⟩
def r47 {S:Seat} (h:Ok1 S 47 tf47):RtF S [] (Rt S k47):=okr h rfl fun x=>by kernel_rfl
def tc44:TCode:=.seq (rg [oq 2 (.box 0),om 4 (cb false)]) (.seq (.regionJ ⟨[.slot 4 .bool],[5,6,7,8,9,10,11,12,13,14,15,16,17,18],[],[]⟩ [oq 5 (.fa 2 2),oq 6 (.load none 5),om 7 1,oq 8 (.ia 4 6 7),oq 9 (.fa 3 8),oq 10 (.load none 9),oq 11 (.bin .str .eql 10 (cs ⟨#[]⟩)),om 12 11,og 13 (.load (some 3) 2) 12 true [],og 14 (.mov 1) 12 true [],og 15 (.call true [] 47 [13,14]) 12 true [],og 16 (.len false 15) 12 true [],og 17 (.bin .int .eql 16 (ci 0)) 12 true [],oq 18 (.pick 12 17 (cb false)),om 4 18] [] false) (.ret)) 
def tf44:TFunc:=⟨2,19,[.tmp 4],false,tc44,[]⟩
def S44 (a0:Dim) (a1:Int):Option Bool :=
 jn (σ:=Bool) (α:=Bool) (bno (qb (Dim.members a0) a1) fun y1 =>
 br (decide ((Member.formula y1)=(⟨#[]⟩:ByteArray)))
 (bno (F47 a0 a1) fun y2 =>
 zD (some (decide ((y2.length:Int)=(0:Int)))))
 (zD (some false))) fun x3 =>
 some x3
def P44:=S44 P47
def k44:CSpec:=⟨44,[(.st .dim),.int],.bool,fun x=>P44 x.1 x.2,false,[]⟩
def r44 {S:Seat} (h:Ok1 S 44 tf44):RtF S [k47] (Rt S k44):=okr h rfl fun x=>by kernel_rfl
end
end Ab
