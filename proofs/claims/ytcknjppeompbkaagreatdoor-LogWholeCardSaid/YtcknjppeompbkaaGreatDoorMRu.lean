/-
  Functions of the program as typed code, what they come to, and their contracts: written by program (mk.py).
-/
import Derived.Test.YtcknjppeompbkaaGreatDoorK11
set_option linter.all false
noncomputable section
namespace Ab
open Go
set_option maxRecDepth 100000
section
variable (F14:LD->(Option (Int×Int×Err))) (F15:Dim->(Option (Int×Err))) (F213:LI->(Option LI)) (F248:ByteArray->(Option (LN×Int×Err))) (F302:LI->(Option LI)) (F303:(List LI)->Int->(Option Bool)) (F315:Dim->(Option (Int×Err))) (F320:LD->(Option (Int×Int×Err))) (F340:Dim->(Option ((List LI)×Int×Err))) (F341:(List LI)->(Option LI)) (F345_358:LI->(List Bool)->(Option Bool)) (F355:Dim->Int->(Option ((Option LN)×Err))) (F356:Dim->Int->(Option LN)->(Option LI)) (F357:LI->Int->(Option Bool)) (F358:Int->(List Bool)->(Option Bool)) (F359_358:LI->(List Bool)->(Option Int)) (F362:LI->Int->(Option Int)) (F37:LM->ByteArray->(Option Int)) (F47:Dim->Int->(Option LI))
def tc355:TCode:=.seq (rg [oq 2 (.box 0),om 4 cn,om 5 cz]) (.seq (.seq (rg [oq 9 (.fa 2 2),oq 10 (.load none 9),om 11 1,oq 12 (.ia 4 10 11),oq 13 (.fa 3 12),oq 14 (.load none 13),oq 15 (.bin .str .eql 14 (cs ⟨#[]⟩))]) (.cond 15 (.seq (rg [om 4 cn,om 5 cz]) (.ret)) (.skip))) (.seq (rg [oq 17 (.fa 2 2),oq 18 (.load none 17),om 19 1,oq 20 (.ia 4 18 19),oq 21 (.fa 3 20),oq 22 (.load none 21),oq 23 (.call true [] 248 [22]),om 16 23,oq 24 (.ext 16 0),oq 25 (.ext 16 1),oq 26 (.ext 16 2),om 6 24,om 7 25,om 8 26]) (.seq (rg [om 27 6,om 28 8,om 4 27,om 5 28]) (.ret)))) 
def tf355:TFunc:=⟨2,29,[.tmp 4,.tmp 5],false,tc355,[]⟩
def S355 (a0:Dim) (a1:Int):Option ((Option LN)×Err) :=
 bno (qb (Dim.members a0) a1) fun y1 =>
 br (decide ((Member.formula y1)=(⟨#[]⟩:ByteArray)))
 (some (none,Err.nil))
 (bno (qb (Dim.members a0) a1) fun y2 =>
 bno (F248 (Member.formula y2)) fun y3 =>
 some (some y3.1,y3.2.2))
def P355:=S355 P248
def k355:CSpec:=⟨355,[(.st .dim),.int],(.tp [(.ns .node),.err]),fun x=>P355 x.1 x.2,false,[]⟩
def r355 {S:Seat} (h:Ok1 S 355 tf355):RtF S [k248] (Rt S k355):=okr h rfl fun x=>by kernel_rfl
def tc362:TCode:=.seq (rg [om 4 (ci 0)]) (.seq (.seq (rg [om 6 0,oq 7 (.len false 6),om 8 (ci 0)]) (.loop ⟨[.slot 8 .int],[5,9,10,11,12,13,14,15,16,18],[],[]⟩ 0 (.seq (rg [oq 9 (.bin .int .lss 8 7)]) (.seq (.cond 9 (.skip) (.exit 0)) (.seq (.block 1 (.seq (rg [om 10 8,om 5 10]) (.seq (rg [om 11 1,om 12 0,om 13 5,oq 14 (.ia 1 12 13),oq 15 (.load none 14),oq 16 (.bin .int .eql 11 15)]) (.cond 16 (.seq (rg [om 17 5,om 4 17]) (.ret)) (.skip))))) (rg [oq 18 (.bin .int .add 8 (ci 1)),om 8 18])))))) (.seq (rg [om 4 (ci (-1))]) (.ret))) 
def tf362:TFunc:=⟨2,19,[.tmp 4],false,tc362,[]⟩
def zhF (a0:LI) (a1:Int) (x1:Int):Option (LR Int Int) :=
 br (decide (x1 < (a0.length:Int)))
 (bno (qb a0 x1) fun y2 =>
 br (decide (a1=y2))
 (wj (some x1))
 (nxO (some (wi (x1+(1:Int))))))
 (dnO (some x1))
def S362 (a0:LI) (a1:Int):Option Int :=
 lp (zhF a0 a1) (0:Int) fun x3 =>
 some (-1:Int)
def P362:=S362
def k362:CSpec:=⟨362,[(.sl .int),.int],.int,fun x=>P362 x.1 x.2,false,[]⟩
def r362 {S:Seat} (h:Ok1 S 362 tf362):RtF S [] (Rt S k362):=okr h rfl fun x=>by kernel_rfl
def tc357:TCode:=.seq (rg [om 4 (cb false)]) (.seq (rg [om 5 0,om 6 1,oq 7 (.call false [] 362 [5,6]),oq 8 (.bin .int .geq 7 (ci 0)),om 4 8]) (.ret)) 
def tf357:TFunc:=⟨2,9,[.tmp 4],false,tc357,[]⟩
def S357 (a0:LI) (a1:Int):Option Bool :=
 bno (F362 a0 a1) fun y1 =>
 some (decide ((0:Int)<=y1))
def P357:=S357 P362
def k357:CSpec:=⟨357,[(.sl .int),.int],.bool,fun x=>P357 x.1 x.2,false,[]⟩
def r357 {S:Seat} (h:Ok1 S 357 tf357):RtF S [k362] (Rt S k357):=okr h rfl fun x=>by kernel_rfl
def tc356:TCode:=.seq (rg [oq 3 (.box 0),om 6 cn]) (.seq (.seq (rg [om 11 2,oq 12 (.len false 11),om 13 (ci 0)]) (.loop ⟨[.row 6 27 .int,.slot 13 .int],[8,14,15,16,17,18,19,20,21,22,23,24,25,26,27,28],[8,26],[]⟩ 0 (.seq (rg [oq 14 (.bin .int .lss 13 12)]) (.seq (.cond 14 (.skip) (.exit 0)) (.seq (.block 1 (.seq (rg [oq 15 (.ia 5 11 13),oq 16 (.load (some 5) 15),oq 8 (.alloc [.int .i64 0,.int .i64 0,.string ⟨#[]⟩,.int .i64 0,.int .i64 0]),on (.store 5 8 16)]) (.seq (rg [oq 17 (.fa 0 8),oq 18 (.load none 17),oq 19 (.bin .int .eql 18 (ci 2))]) (.condJ ⟨[.row 6 27 .int],[20,21,22,23,24,25,26,27],[26],[]⟩ 19 (rg [om 20 6,oq 21 (.fa 2 3),oq 22 (.load none 21),oq 23 (.fa 2 8),oq 24 (.load none 23),oq 25 (.call false [] 37 [22,24]),oq 26 (.bslice false 1 [.int .i64 0] 1 [(0,25)]),oq 27 (.app 1 20 26),om 6 27]) (.skip))))) (rg [oq 28 (.bin .int .add 13 (ci 1)),om 13 28])))))) (.seq (.seq (rg [om 29 2,oq 30 (.eqn true false 29)]) (.condJ ⟨[.row 6 27 .int],[10,31,32,33,34,35,36,37,38,39,40,41,42,43,44,45,46,47,48,49,50],[48],[]⟩ 30 (.seq (rg [oq 31 (.load (some 3) 3),om 32 1,oq 33 (.call true [] 47 [31,32]),oq 34 (.len false 33),om 35 (ci 0)]) (.loop ⟨[.row 6 27 .int,.slot 35 .int],[10,36,37,38,39,40,41,42,43,44,45,46,47,48,49,50],[48],[]⟩ 2 (.seq (rg [oq 36 (.bin .int .lss 35 34)]) (.seq (.cond 36 (.skip) (.exit 2)) (.seq (.block 3 (.seq (rg [oq 37 (.ia 1 33 35),oq 38 (.load none 37),om 10 38]) (.seq (rg [oq 39 (.fa 2 3),oq 40 (.load none 39),om 41 10,oq 42 (.ia 4 40 41),oq 43 (.fa 2 42),oq 44 (.load none 43),oq 45 (.bin .int .neq 44 (ci 0))]) (.condJ ⟨[.row 6 27 .int],[46,47,48,49],[48],[]⟩ 45 (rg [om 46 6,om 47 10,oq 48 (.bslice false 1 [.int .i64 0] 1 [(0,47)]),oq 49 (.app 1 46 48),om 6 49]) (.skip))))) (rg [oq 50 (.bin .int .add 35 (ci 1)),om 35 50])))))) (.skip))) (.seq (rg [om 51 6,oq 52 (.call false [0] 213 [51])]) (.seq (rg [om 53 6,oq 54 (.call true [1000] 302 [53]),om 6 54]) (.ret))))) 
def tf356:TFunc:=⟨3,55,[.tmp 6],false,tc356,[]⟩
def zdv (a0:Dim) (a2:(Option LN)) (x1:(LI×Int)):Option (LR (LI×Int) LI) :=
 br (decide (x1.2 < ((Option.getD a2 ([])).length:Int)))
 (bno (qb (Option.getD a2 ([])) x1.2) fun y2 =>
 jn (σ:=(List Int)) (α:=(LR ((List Int)×Int) (List Int))) (br (decide ((Node.op y2)=(2:Int)))
 (bno (F37 (Dim.members a0) (Node.name y2)) fun y3 =>
 ck (decide (List.length x1.1+List.length ([y3]:List Int)<=qB)) <|
 zD (some (x1.1++([y3]:List Int))))
 (zD (some x1.1))) fun x4 =>
 nxO (some (x4,wi (x1.2+(1:Int)))))
 (dnO (some (x1.1,x1.2)))
def zdu (a0:Dim) (y6:LI) (x7:(LI×Int)):Option (LR (LI×Int) (Sum LI LI)) :=
 br (decide (x7.2 < (y6.length:Int)))
 (bno (qb y6 x7.2) fun y8 =>
 bno (qb (Dim.members a0) y8) fun y9 =>
 jn (σ:=(List Int)) (α:=(LR ((List Int)×Int) (Sum (List Int) (List Int)))) (br (decide (¬ (Member.sign y9)=(0:Int)))
 (ck (decide (List.length x7.1+List.length ([y8]:List Int)<=qB)) <|
 zD (some (x7.1++([y8]:List Int))))
 (zD (some x7.1))) fun eZ =>
 nxO (some (eZ,wi (x7.2+(1:Int)))))
 (dnO (some (x7.1,x7.2)))
def S356 (a0:Dim) (a1:Int) (a2:(Option LN)):Option LI :=
 lp (zdv F37 a0 a2) (([]:List Int),(0:Int)) fun x5 =>
 ck (match (a2:Option (List Node)) with | some xs => !xs.isEmpty | none=>true) <|
 jn (σ:=(List Int)) (α:=(List Int)) (br (Option.isNone a2)
 (bno (F47 a0 a1) fun y6 =>
 lp (zdu a0 y6) (x5.1,(0:Int)) fun fj =>
 zD (some fj.1))
 (zD (some x5.1))) fun kL =>
 bno (F213 kL) fun fi =>
 ck (decide (List.length fi=List.length kL)) <|
 bno (F302 fi) fun iz =>
 some iz
def P356:=S356 P213 P302 P37 P47
def k356:CSpec:=⟨356,[(.st .dim),.int,(.ns .node)],(.sl .int),fun x=>P356 x.1 x.2.1 x.2.2,false,[]⟩
def r356 {S:Seat} (h:Ok1 S 356 tf356):RtF S [k213,k302,k37,k47] (Rt S k356):=okr h rfl fun x=>by kernel_rfl
def tc340:TCode:=.seq (rg [oq 1 (.box 0),om 2 cn,om 3 (ci 0),om 4 cz]) (.seq (.seq (rg [oq 14 (.load (some 3) 1),oq 15 (.call false [] 15 [14]),om 13 15,oq 16 (.ext 13 0),oq 17 (.ext 13 1),om 5 16,om 6 17]) (.seq (rg [om 18 6,oq 19 (.eqn false true 18)]) (.cond 19 (.seq (rg [om 20 5,om 21 6,om 2 cn,om 3 20,om 4 21]) (.ret)) (.skip)))) (.seq (rg [om 7 cn]) (.seq (.seq (rg [oq 22 (.fa 2 1),oq 23 (.load none 22),oq 24 (.len false 23),om 25 (ci 0)]) (.loop ⟨[.row 7 49 (.sl .int),.slot 25 .int],[8,9,10,11,26,27,28,29,30,31,32,33,34,35,38,39,40,41,42,43,46,47,48,49,50],[48],[]⟩ 0 (.seq (rg [oq 26 (.bin .int .lss 25 24)]) (.seq (.cond 26 (.skip) (.exit 0)) (.seq (.block 1 (.seq (rg [om 27 25,om 8 27]) (.seq (rg [oq 29 (.load (some 3) 1),om 30 8,oq 31 (.call true [] 355 [29,30]),om 28 31,oq 32 (.ext 28 0),oq 33 (.ext 28 1),om 9 32,om 10 33]) (.seq (.seq (rg [om 34 10,oq 35 (.eqn false true 34)]) (.cond 35 (.seq (rg [om 36 8,om 37 10,om 2 cn,om 3 36,om 4 37]) (.ret)) (.skip))) (.seq (rg [oq 38 (.load (some 3) 1),om 39 8,om 40 9,oq 41 (.call true [] 356 [38,39,40]),om 11 41]) (.seq (.seq (rg [om 42 11,oq 43 (.call false [] 357 [42,(ci (-1))])]) (.cond 43 (.seq (rg [om 44 8,oq 45 (.ifc 1 (ci 5)),om 2 cn,om 3 44,om 4 45]) (.ret)) (.skip))) (.region [om 46 7,om 47 11,oq 48 (.bslice true 1 [.slice none 0 0] 1 [(0,47)]),oq 49 (.app 1 46 48),om 7 49] [.int,.int,(.sl .int),(.sl .int)] false))))))) (rg [oq 50 (.bin .int .add 25 (ci 1)),om 25 50])))))) (.seq (.seq (rg [oq 51 (.fa 2 1),oq 52 (.load none 51),oq 53 (.len false 52),om 54 (ci 0)]) (.loop ⟨[.slot 54 .int],[12,55,56,57,58,59,62],[],[]⟩ 2 (.seq (rg [oq 55 (.bin .int .lss 54 53)]) (.seq (.cond 55 (.skip) (.exit 2)) (.seq (.block 3 (.seq (rg [om 56 54,om 12 56]) (.seq (rg [om 57 7,om 58 12,oq 59 (.call false [] 303 [57,58])]) (.cond 59 (.seq (rg [om 60 12,oq 61 (.ifc 1 (ci 8)),om 2 cn,om 3 60,om 4 61]) (.ret)) (.skip))))) (rg [oq 62 (.bin .int .add 54 (ci 1)),om 54 62])))))) (.seq (rg [om 63 7,om 2 63,om 3 (ci (-1)),om 4 cz]) (.ret)))))) 
def tf340:TFunc:=⟨1,64,[.tmp 2,.tmp 3,.tmp 4],false,tc340,[]⟩
def zff (a0:Dim) (x2:((List LI)×Int)):Option (LR ((List LI)×Int) ((List LI)×Int×Err)) :=
 br (decide (x2.2 < ((Dim.members a0).length:Int)))
 (bno (F355 a0 x2.2) fun y3 =>
 br (!(Err.isNil y3.2))
 (wj (some (([]:List (List Int)),x2.2,y3.2)))
 (bno (F356 a0 x2.2 y3.1) fun y4 =>
 bno (F357 y4 (-1:Int)) fun y5 =>
 br y5
 (wj (some (([]:List (List Int)),x2.2,Err.no (5:Int))))
 (ck (decide (List.length x2.1+List.length ([y4]:List (List Int))<=qB)) <|
 nxO (some (x2.1++([y4]:List (List Int)),wi (x2.2+(1:Int)))))))
 (dnO (some (x2.1,x2.2)))
def zfe (a0:Dim) (x6:((List LI)×Int)) (x7:Int):Option (LR Int ((List LI)×Int×Err)) :=
 br (decide (x7 < ((Dim.members a0).length:Int)))
 (bno (F303 x6.1 x7) fun y8 =>
 br y8
 (wj (some (([]:List (List Int)),x7,Err.no (8:Int))))
 (nxO (some (wi (x7+(1:Int))))))
 (dnO (some x7))
def S340 (a0:Dim):Option ((List LI)×Int×Err) :=
 bno (F15 a0) fun y1 =>
 br (!(Err.isNil y1.2))
 (some (([]:List (List Int)),y1.1,y1.2))
 (lp (zff F355 F356 F357 a0) (([]:List (List Int)),(0:Int)) fun x6 =>
 lp (zfe F303 a0 x6) (0:Int) fun x9 =>
 some (x6.1,(-1:Int),Err.nil))
def P340:=S340 P15 P303 P355 P356 P357
def k340:CSpec:=⟨340,[(.st .dim)],(.tp [(.sl (.sl .int)),.int,.err]),fun x=>P340 x,false,[]⟩
def r340 {S:Seat} (h:Ok1 S 340 tf340):RtF S [k15,k303,k355,k356,k357] (Rt S k340):=okr h rfl fun x=>by kernel_rfl
def tc315:TCode:=.seq (rg [oq 1 (.box 0),om 2 (ci 0),om 3 cz]) (.seq (rg [oq 8 (.load (some 3) 1),oq 9 (.call true [] 340 [8]),om 7 9,oq 10 (.ext 7 0),oq 11 (.ext 7 1),oq 12 (.ext 7 2),om 4 10,om 5 11,om 6 12]) (.seq (rg [om 13 5,om 14 6,om 2 13,om 3 14]) (.ret))) 
def tf315:TFunc:=⟨1,15,[.tmp 2,.tmp 3],false,tc315,[]⟩
def S315 (a0:Dim):Option (Int×Err) :=
 bno (F340 a0) fun y1 =>
 some (y1.2.1,y1.2.2)
def P315:=S315 P340
def k315:CSpec:=⟨315,[(.st .dim)],(.tp [.int,.err]),fun x=>P315 x,false,[]⟩
def r315 {S:Seat} (h:Ok1 S 315 tf315):RtF S [k340] (Rt S k315):=okr h rfl fun x=>by kernel_rfl
def tc320:TCode:=.seq (rg [oq 1 (.box 0),om 2 (ci 0),om 3 (ci 0),om 4 cz]) (.seq (.seq (rg [oq 13 (.load (some 1) 1),oq 14 (.call false [] 14 [13]),om 12 14,oq 15 (.ext 12 0),oq 16 (.ext 12 1),oq 17 (.ext 12 2),om 5 15,om 6 16,om 7 17]) (.seq (rg [om 18 7,oq 19 (.eqn false true 18)]) (.cond 19 (.seq (rg [om 20 5,om 21 6,om 22 7,om 2 20,om 3 21,om 4 22]) (.ret)) (.skip)))) (.seq (.seq (rg [oq 23 (.fa 0 1),oq 24 (.load none 23),oq 25 (.len false 24),om 26 (ci 0)]) (.loop ⟨[.slot 26 .int],[8,9,10,11,27,28,29,30,31,32,33,34,35,36,37,41],[9],[]⟩ 0 (.seq (rg [oq 27 (.bin .int .lss 26 25)]) (.seq (.cond 27 (.skip) (.exit 0)) (.seq (.block 1 (.seq (rg [om 28 26,oq 29 (.ia 3 24 26),oq 30 (.load (some 3) 29),oq 9 (.alloc [.string ⟨#[]⟩,.int .i64 0,.slice none 0 0]),om 8 28,on (.store 3 9 30)]) (.seq (rg [oq 32 (.load (some 3) 9),oq 33 (.call false [] 315 [32]),om 31 33,oq 34 (.ext 31 0),oq 35 (.ext 31 1),om 10 34,om 11 35]) (.seq (rg [om 36 11,oq 37 (.eqn false true 36)]) (.cond 37 (.seq (rg [om 38 8,om 39 10,om 40 11,om 2 38,om 3 39,om 4 40]) (.ret)) (.skip)))))) (rg [oq 41 (.bin .int .add 26 (ci 1)),om 26 41])))))) (.seq (rg [om 2 (ci (-1)),om 3 (ci (-1)),om 4 cz]) (.ret)))) 
def tf320:TFunc:=⟨1,42,[.tmp 2,.tmp 3,.tmp 4],false,tc320,[]⟩
def zfg (a0:LD) (x2:Int):Option (LR Int (Int×Int×Err)) :=
 br (decide (x2 < (a0.length:Int)))
 (bno (qb a0 x2) fun y3 =>
 bno (F315 y3) fun y4 =>
 br (!(Err.isNil y4.2))
 (wj (some (x2,y4.1,y4.2)))
 (nxO (some (wi (x2+(1:Int))))))
 (dnO (some x2))
def S320 (a0:LD):Option (Int×Int×Err) :=
 bno (F14 a0) fun y1 =>
 br (!(Err.isNil y1.2.2))
 (some (y1.1,y1.2.1,y1.2.2))
 (lp (zfg F315 a0) (0:Int) fun x5 =>
 some ((-1:Int),(-1:Int),Err.nil))
def P320:=S320 P14 P315
def k320:CSpec:=⟨320,[(.st .outl)],(.tp [.int,.int,.err]),fun x=>P320 x,false,[]⟩
def r320 {S:Seat} (h:Ok1 S 320 tf320):RtF S [k14,k315] (Rt S k320):=okr h rfl fun x=>by kernel_rfl
def tc352:TCode:=.seq (rg [oq 1 (.box 0),om 2 cz]) (.seq (rg [oq 7 (.load (some 1) 1),oq 8 (.call false [] 320 [7]),om 6 8,oq 9 (.ext 6 0),oq 10 (.ext 6 1),oq 11 (.ext 6 2),om 3 9,om 4 10,om 5 11]) (.seq (rg [om 12 5,om 2 12]) (.ret))) 
def tf352:TFunc:=⟨1,13,[.tmp 2],false,tc352,[]⟩
def S352 (a0:LD):Option Err :=
 bno (F320 a0) fun y1 =>
 some y1.2.2
def P352:=S352 P320
def k352:CSpec:=⟨352,[(.st .outl)],.err,fun x=>P352 x,false,[]⟩
def r352 {S:Seat} (h:Ok1 S 352 tf352):RtF S [k320] (Rt S k352):=okr h rfl fun x=>by kernel_rfl
end
end Ab
