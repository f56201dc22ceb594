/-
  Functions of the program as typed code, what they come to, and their contracts: written by program (mk.py).
-/
import Derived.Test.YtcknjppeompbkaaGreatDoorMRu
set_option linter.all false
noncomputable section
namespace Ab
open Go
set_option maxRecDepth 100000
section
variable (F112:LD->LY->(List Edit)->(Option (LY×Int×Err))) (F154:(List ByteArray)->ByteArray->(Option ByteArray)) (F157:Int->(Option ByteArray)) (F352:LD->(Option Err)) (F407:(List Edit)->(Option ByteArray)) (F408:(LD×LY×ByteArray×Int×Int×Bool)->(Option ((LD×LY×ByteArray×Int×Int×Bool)×Bool))) (F409:LD->(Option LD)) (F410:LD->(Option LD)) (F411:LM->(Option LM)) (F72:LY->(Option LY))
def tc408:TCode:=.seq (rg [om 2 (cb false)]) (.seq (rg [om 3 0,om 4 0,oq 5 (.chk 4),oq 6 (.fa 4 5),oq 7 (.load none 6),oq 8 (.bin .int .eql 7 (ci 0)),oq 9 (.chk 3),oq 10 (.fa 5 9),on (.store 1 10 8)]) (.seq (rg [om 11 0,om 12 0,oq 13 (.chk 12),oq 14 (.fa 4 13),oq 15 (.load none 14),oq 16 (.bin .int .sub 15 (ci 1)),oq 17 (.max2 (ci (-1)) 16),oq 18 (.chk 11),oq 19 (.fa 4 18),on (.store 1 19 17)]) (.seq (rg [om 20 0,oq 21 (.chk 20),oq 22 (.fa 5 21),oq 23 (.load none 22),om 2 23]) (.ret)))) 
def tf408:TFunc:=⟨1,24,[.tmp 2],false,tc408,[4000]⟩
def S408 (a0:(LD×LY×ByteArray×Int×Int×Bool)):Option ((LD×LY×ByteArray×Int×Int×Bool)×Bool) :=
 some ((a0.1,a0.2.1,a0.2.2.1,a0.2.2.2.1,maxT (-1:Int) (wi (a0.2.2.2.2.1 - (1:Int))),decide (a0.2.2.2.2.1=(0:Int))),decide (a0.2.2.2.2.1=(0:Int)))
def s408 (a0:((List Dim)×(List Entry)×ByteArray×Int×Int×Bool)):tf408.runO [] [(.tp [(.sl .dim),(.sl .entry),.str,.int,.int,.bool])] (.tp [(.tp [(.sl .dim),(.sl .entry),.str,.int,.int,.bool]),.bool]) a0=S408 a0:=by kernel_rfl
def P408:=S408
def k408:CSpec:=⟨408,[(.tp [(.sl .dim),(.sl .entry),.str,.int,.int,.bool])],(.tp [(.tp [(.sl .dim),(.sl .entry),.str,.int,.int,.bool]),.bool]),fun x=>P408 x,false,[4000]⟩
def r408 {S:Seat} (h:zji S 408 tf408):Rt S k408 :=
 okrO (C:=[]) h rfl (fun x=>s408 x)
def tc407:TCode:=.seq (rg [om 2 (cs ⟨#[]⟩)]) (.seq (.region [om 9 0,oq 10 (.len false 9),oq 11 (.call false [] 157 [10]),oq 12 (.bslice false 1 [.string ⟨#[]⟩] 1 [(0,11)]),om 3 12] [.int,.int,.int,.str] false) (.seq (.seq (rg [om 13 0,oq 14 (.len false 13),om 15 (ci 0)]) (.loop ⟨[.row 3 12 .str,.slot 15 .int],[5,6,8,16,17,18,19,20,21,22,23,24,25,26,27,28,29,30,31,32,33,34,35,36,37,38,39,40,41,42],[5,31,40],[]⟩ 0 (.seq (rg [oq 16 (.bin .int .lss 15 14)]) (.seq (.cond 16 (.skip) (.exit 0)) (.seq (.block 1 (.seq (rg [oq 17 (.ia 3 13 15),oq 18 (.load (some 3) 17),oq 5 (.alloc [.slice none 0 0,.int .i64 0,.bool false]),on (.store 3 5 18)]) (.seq (rg [om 6 (cs ⟨#[61]⟩)]) (.seq (.seq (rg [oq 19 (.fa 2 5),oq 20 (.load none 19)]) (.condJ ⟨[.slot 6 .str],[],[],[]⟩ 20 (rg [om 6 (cs ⟨#[120]⟩)]) (.skip))) (.seq (.seq (rg [oq 21 (.fa 0 5),oq 22 (.load none 21),oq 23 (.len false 22),om 24 (ci 0)]) (.loop ⟨[.row 3 12 .str,.slot 24 .int],[8,25,26,27,28,29,30,31,32,33],[31],[]⟩ 2 (.seq (rg [oq 25 (.bin .int .lss 24 23)]) (.seq (.cond 25 (.skip) (.exit 2)) (.seq (.block 3 (.seq (rg [oq 26 (.ia 1 22 24),oq 27 (.load none 26),om 8 27]) (.region [om 28 3,om 29 8,oq 30 (.call false [] 157 [29]),oq 31 (.bslice false 1 [.string ⟨#[]⟩] 1 [(0,30)]),oq 32 (.app 1 28 31),om 3 32] [.int,.int,.int,.str,.str] false))) (rg [oq 33 (.bin .int .add 24 (ci 1)),om 24 33])))))) (.region [om 34 3,om 35 6,oq 36 (.fa 1 5),oq 37 (.load none 36),oq 38 (.call false [] 157 [37]),oq 39 (.bin .str .add 35 38),oq 40 (.bslice false 1 [.string ⟨#[]⟩] 1 [(0,39)]),oq 41 (.app 1 34 40),om 3 41] [.int,.int,.int,.int,.int,.int,.str,.str] false)))))) (rg [oq 42 (.bin .int .add 15 (ci 1)),om 15 42])))))) (.seq (rg [om 43 3,oq 44 (.call false [] 154 [43,(cs ⟨#[32]⟩)]),oq 45 (.bin .str .add 44 (cs ⟨#[10]⟩)),om 2 45]) (.ret)))) 
def tf407:TFunc:=⟨1,46,[.tmp 2],false,tc407,[]⟩
def zdt (y3:Edit) (x5:((List ByteArray)×Int)):Option (LR ((List ByteArray)×Int) (LR ((List ByteArray)×Int) ByteArray)) :=
 br (decide (x5.2 < ((Edit.at_ y3).length:Int)))
 (bno (qb (Edit.at_ y3) x5.2) fun y6 =>
 bno (F157 y6) fun y7 =>
 ck (decide (List.length x5.1+List.length ([y7]:List ByteArray)<=qB)) <|
 nxO (some (x5.1++([y7]:List ByteArray),wi (x5.2+(1:Int)))))
 (dnO (some (x5.1,x5.2)))
def zfd (a0:(List Edit)) (x2:((List ByteArray)×Int)):Option (LR ((List ByteArray)×Int) ByteArray) :=
 br (decide (x2.2 < (a0.length:Int)))
 (bno (qb a0 x2.2) fun y3 =>
 jn (σ:=ByteArray) (α:=(LR ((List ByteArray)×Int) ByteArray)) (br (Edit.clear y3)
 (zD (some (⟨#[120]⟩:ByteArray)))
 (zD (some (⟨#[61]⟩:ByteArray)))) fun x4 =>
 lp (zdt F157 y3) (x2.1,(0:Int)) fun x8 =>
 bno (F157 (Edit.n y3)) fun y9 =>
 ck (decide (ByteArray.size x4+ByteArray.size y9<=9223372036854775807)) <|
 ck (decide (List.length x8.1+List.length ([x4++y9]:List ByteArray)<=qB)) <|
 nxO (some (x8.1++([x4++y9]:List ByteArray),wi (x2.2+(1:Int)))))
 (dnO (some (x2.1,x2.2)))
def S407 (a0:(List Edit)):Option ByteArray :=
 bno (F157 (a0.length:Int)) fun y1 =>
 lp (zfd F157 a0) (([y1]:List ByteArray),(0:Int)) fun eZ =>
 bno (F154 eZ.1 (⟨#[32]⟩:ByteArray)) fun iA =>
 ck (decide (ByteArray.size iA+ByteArray.size (⟨#[10]⟩:ByteArray)<=9223372036854775807)) <|
 some (iA++(⟨#[10]⟩:ByteArray))
def P407:=S407 P154 P157
def k407:CSpec:=⟨407,[(.sl .edit)],.str,fun x=>P407 x,false,[]⟩
def r407 {S:Seat} (h:Ok1 S 407 tf407):RtF S [k154,k157] (Rt S k407):=okr h rfl fun x=>by kernel_rfl
def tc409:TCode:=.seq (rg [oq 1 (.box 0),oq 2 (.alloc [.slice none 0 0])]) (.seq (rg [oq 5 (.fa 0 1),oq 6 (.load none 5),oq 7 (.call true [] 410 [6]),oq 8 (.fa 0 1),on (.store 1 8 7)]) (.seq (.seq (rg [oq 9 (.fa 0 1),oq 10 (.load none 9),oq 11 (.len false 10),om 12 (ci 0)]) (.loop ⟨[.slot 12 .int,.rowH 7 .dim],[3,4,13,14,15,16,17,18,19,20,21,22,23,24,25],[4],[]⟩ 0 (.seq (rg [oq 13 (.bin .int .lss 12 11)]) (.seq (.cond 13 (.skip) (.exit 0)) (.seq (.block 1 (.seq (rg [om 14 12,oq 15 (.ia 3 10 12),oq 16 (.load (some 3) 15),oq 4 (.alloc [.string ⟨#[]⟩,.int .i64 0,.slice none 0 0]),om 3 14,on (.store 3 4 16)]) (.region [oq 17 (.fa 0 1),od 18 (.load none 17) [0],om 19 3,oq 20 (.fa 2 4),od 21 (.load none 20) [3],od 22 (.call true [] 411 [21]) [4],od 23 (.ia 3 18 19) [1,2,0,1,2,3,4,5],od 24 (.fa 2 23) [6,0,1,2,3,4,5],⟨none,.store 1 24 22,none,[7,5,5,0,1,2,3,4,5]⟩] [] true))) (rg [oq 25 (.bin .int .add 12 (ci 1)),om 12 25])))))) (.seq (rg [oq 26 (.load (some 1) 1),on (.store 1 2 26)]) (.ret)))) 
def tf409:TFunc:=⟨1,27,[.cell 2 (some 1)],false,tc409,[]⟩
def zfc (y1:LD) (x2:(Int×LD)):Option (LR (Int×LD) LD) :=
 br (decide (x2.1 < (y1.length:Int)))
 (ck (decide (0<=x2.1∧x2.1 < (x2.2.length:Int))) <|
 bno ((x2.2)[(Int.toNat x2.1)]?) fun y3 =>
 bno (F411 (Dim.members y3)) fun y4 =>
 ck (decide (0<=x2.1∧x2.1 < (x2.2.length:Int))) <|
 bno ((x2.2)[(Int.toNat x2.1)]?) fun y5 =>
 nxO (some (wi (x2.1+(1:Int)),List.set x2.2 (Int.toNat x2.1) (Dim.mk (Dim.name y5) (Dim.solve y5) y4))))
 (dnO (some (x2.1,x2.2)))
def S409 (a0:LD):Option LD :=
 bno (F410 a0) fun y1 =>
 lp (zfc F411 y1) ((0:Int),y1) fun x6 =>
 some x6.2
def P409:=S409 P410 P411
def k409:CSpec:=⟨409,[(.st .outl)],(.st .outl),fun x=>P409 x,false,[]⟩
def r409 {S:Seat} (h:Ok1 S 409 tf409):RtF S [k410,k411] (Rt S k409):=okr h rfl fun x=>by kernel_rfl
def tc403:TCode:=.seq (rg [oq 1 (.box 0),om 2 (.c (.pointer none)),om 3 cz]) (.seq (.seq (rg [oq 5 (.load (some 1) 1),oq 6 (.call false [] 352 [5]),om 4 6]) (.seq (rg [om 7 4,oq 8 (.eqn false true 7)]) (.cond 8 (.seq (rg [om 9 4,om 2 (.c (.pointer none)),om 3 9]) (.ret)) (.skip)))) (.seq (rg [oq 10 (.load (some 1) 1),oq 11 (.call true [] 409 [10]),oq 12 (.build [.slice none 0 0,.slice none 0 0,.string ⟨#[]⟩,.int .i64 0,.int .i64 0,.bool false] [(0,1,11),(4,1,(ci (-1)))]),oq 13 (.box 12),om 2 13,om 3 cz]) (.ret))) 
def tf403:TFunc:=⟨1,14,[.tmp 2,.tmp 3],false,tc403,[5000]⟩
def S403 (a0:LD):Option ((LD×LY×ByteArray×Int×Int×Bool)×Err) :=
 bno (F352 a0) fun y1 =>
 br (!(Err.isNil y1))
 (ck (!(Err.isNil y1)) (some ((([]:List Dim),([]:List Entry),ByteArray.empty,(0:Int),(0:Int),false),y1)))
 (bno (F409 a0) fun y2 =>
 some ((y2,([]:List Entry),(⟨#[]⟩:ByteArray),(0:Int),(-1:Int),false),Err.nil))
def s403 (a0:(List Dim)):tf403.runN [⟨352,[(.st .outl)],.err,fun x=>F352 x,false,[]⟩,
 ⟨409,[(.st .outl)],(.st .outl),fun x=>F409 x,false,[]⟩] [(.st .outl)] (.tp [(.tp [(.sl .dim),(.sl .entry),.str,.int,.int,.bool]),.err]) a0=S403 F352 F409 a0:=by kernel_rfl
def P403:=S403 P352 P409
def k403:CSpec:=⟨403,[(.st .outl)],(.tp [(.tp [(.sl .dim),(.sl .entry),.str,.int,.int,.bool]),.err]),fun x=>P403 x,false,[5000]⟩
def r403 {S:Seat} (h:zji S 403 tf403) (nQ:Rt S k352) (nM:Rt S k409):Rt S k403 :=
 okrN (C:=[k352,k409]) h rfl (fun x=>s403 P352 P409 x) nQ nM
def tc404:TCode:=.seq (rg [om 4 cz]) (.seq (.seq (rg [om 9 0,oq 10 (.chk 9),oq 11 (.fa 5 10),oq 12 (.load none 11)]) (.cond 12 (.seq (rg [oq 13 (.ifc 1 (ci 6)),om 4 13]) (.ret)) (.skip))) (.seq (.region [om 15 0,od 16 (.chk 15) [0],od 17 (.fa 0 16) [1],od 18 (.load (some 1) 17) [2],om 19 0,od 20 (.chk 19) [4],od 21 (.fa 1 20) [5],od 22 (.load none 21) [6],om 23 1,od 24 (.call true [] 112 [18,22,23]) [3,7,8],od 14 (.mov 24) [9],od 25 (.ext 14 0) [10],od 26 (.ext 14 1) [10],od 27 (.ext 14 2) [10],od 5 (.mov 25) [11,9,0,1,2,3,4,5,6,7,8,9,10,11],od 6 (.mov 26) [12,14,0,1,2,3,4,5,6,7,8,9,10,11,12,14],od 7 (.mov 27) [13,15,0,1,2,3,4,5,6,7,8,9,10,11,12,13,14,15]] [] true) (.seq (.seq (rg [om 28 7,oq 29 (.eqn false true 28)]) (.cond 29 (.seq (rg [om 30 7,om 4 30]) (.ret)) (.skip))) (.seq (rg [om 31 1,oq 32 (.call false [] 407 [31]),om 8 32]) (.seq (.seq (rg [om 33 0,oq 34 (.callo 0 408 [33])]) (.cond 34 (.seq (.region [om 35 0,od 36 (.chk 35) [0],od 37 (.fa 2 36) [1],od 38 (.load none 37) [2],om 39 8,om 40 8,od 41 (.len true 40) [5],od 42 (.bin .int .quo 41 (ci 2)) [6],od 43 (.slc 0 39 none (some 42)) [4,7],od 44 (.bin .str .add 38 43) [3,8],od 45 (.chk 35) [0,0,1,2,3,4,5,6,7,8,9],od 46 (.fa 2 45) [10,0,1,2,3,4,5,6,7,8,9],⟨none,.store 1 46 44,none,[11,9,0,1,2,3,4,5,6,7,8,9]⟩] [] true) (.seq (rg [oq 47 (.ifc 1 (ci 6)),om 4 47]) (.ret))) (.skip))) (.seq (rg [om 48 0,oq 49 (.chk 48),oq 50 (.fa 2 49),oq 51 (.load none 50),om 52 8,oq 53 (.bin .str .add 51 52),oq 54 (.chk 48),oq 55 (.fa 2 54),on (.store 1 55 53)]) (.seq (rg [om 56 0,om 57 5,oq 58 (.chk 56),oq 59 (.fa 1 58),on (.store 1 59 57)]) (.seq (rg [om 4 cz]) (.ret))))))))) 
def tf404:TFunc:=⟨2,60,[.tmp 4],false,tc404,[4000]⟩
def S404 (a0:(LD×LY×ByteArray×Int×Int×Bool)) (a1:(List Edit)):Option ((LD×LY×ByteArray×Int×Int×Bool)×Err) :=
 br a0.2.2.2.2.2
 (some ((a0.1,a0.2.1,a0.2.2.1,a0.2.2.2.1,a0.2.2.2.2.1,a0.2.2.2.2.2),Err.no (6:Int)))
 (bno (F112 a0.1 a0.2.1 a1) fun y1 =>
 br (!(Err.isNil y1.2.2))
 (some ((a0.1,a0.2.1,a0.2.2.1,a0.2.2.2.1,a0.2.2.2.2.1,a0.2.2.2.2.2),y1.2.2))
 (bno (F407 a1) fun y2 =>
 bno (F408 a0) fun y3 =>
 br y3.2
 (ck (decide (¬ (2:Int)=0)) <|
 ck (decide (0<=(0:Int)∧(0:Int)<=wi (Int.tdiv ((ByteArray.size y2:Nat):Int) (2:Int))∧wi (Int.tdiv ((ByteArray.size y2:Nat):Int) (2:Int))<=((ByteArray.size y2:Nat):Int))) <|
 ck (decide (ByteArray.size y3.1.2.2.1+ByteArray.size (ByteArray.extract y2 (Int.toNat (0:Int)) (Int.toNat (wi (Int.tdiv ((ByteArray.size y2:Nat):Int) (2:Int)))))<=9223372036854775807)) <|
 some ((y3.1.1,y3.1.2.1,y3.1.2.2.1++(ByteArray.extract y2 (Int.toNat (0:Int)) (Int.toNat (wi (Int.tdiv ((ByteArray.size y2:Nat):Int) (2:Int))))),y3.1.2.2.2.1,y3.1.2.2.2.2.1,y3.1.2.2.2.2.2),Err.no (6:Int)))
 (ck (decide (ByteArray.size y3.1.2.2.1+ByteArray.size y2<=9223372036854775807)) <|
 some ((y3.1.1,y1.1,y3.1.2.2.1++y2,y3.1.2.2.2.1,y3.1.2.2.2.2.1,y3.1.2.2.2.2.2),Err.nil))))
def s404 (a0:((List Dim)×(List Entry)×ByteArray×Int×Int×Bool)) (a1:(List Edit)):tf404.runO [⟨112,[(.st .outl),(.sl .entry),(.sl .edit)],(.tp [(.sl .entry),.int,.err]),fun x=>F112 x.1 x.2.1 x.2.2,false,[]⟩,
 ⟨407,[(.sl .edit)],.str,fun x=>F407 x,false,[]⟩,
 ⟨408,[(.tp [(.sl .dim),(.sl .entry),.str,.int,.int,.bool])],(.tp [(.tp [(.sl .dim),(.sl .entry),.str,.int,.int,.bool]),.bool]),fun x=>F408 x,false,[4000]⟩] [(.tp [(.sl .dim),(.sl .entry),.str,.int,.int,.bool]),(.sl .edit)] (.tp [(.tp [(.sl .dim),(.sl .entry),.str,.int,.int,.bool]),.err]) (a0,a1)=S404 F112 F407 F408 a0 a1:=by kernel_rfl
def P404:=S404 P112 P407 P408
def k404:CSpec:=⟨404,[(.tp [(.sl .dim),(.sl .entry),.str,.int,.int,.bool]),(.sl .edit)],(.tp [(.tp [(.sl .dim),(.sl .entry),.str,.int,.int,.bool]),.err]),fun x=>P404 x.1 x.2,false,[4000]⟩
def r404 {S:Seat} (h:zji S 404 tf404) (dy:Rt S k112) (nO:Rt S k407) (nN:Rt S k408):Rt S k404 :=
 okrO (C:=[k112,k407,k408]) h rfl (fun x=>s404 P112 P407 P408 x.1 x.2) dy nO nN
def tc405:TCode:=.seq (rg [om 2 (ci 0)]) (.seq (rg [om 3 0,oq 4 (.chk 3),oq 5 (.fa 2 4),oq 6 (.load none 5),oq 7 (.len true 6),om 2 7]) (.ret)) 
def tf405:TFunc:=⟨1,8,[.tmp 2],false,tc405,[4000]⟩
def S405 (a0:(LD×LY×ByteArray×Int×Int×Bool)):Option ((LD×LY×ByteArray×Int×Int×Bool)×Int) :=
 some ((a0.1,a0.2.1,a0.2.2.1,a0.2.2.2.1,a0.2.2.2.2.1,a0.2.2.2.2.2),((ByteArray.size a0.2.2.1:Nat):Int))
def s405 (a0:((List Dim)×(List Entry)×ByteArray×Int×Int×Bool)):tf405.runO [] [(.tp [(.sl .dim),(.sl .entry),.str,.int,.int,.bool])] (.tp [(.tp [(.sl .dim),(.sl .entry),.str,.int,.int,.bool]),.int]) a0=S405 a0:=by kernel_rfl
def P405:=S405
def k405:CSpec:=⟨405,[(.tp [(.sl .dim),(.sl .entry),.str,.int,.int,.bool])],(.tp [(.tp [(.sl .dim),(.sl .entry),.str,.int,.int,.bool]),.int]),fun x=>P405 x,false,[4000]⟩
def r405 {S:Seat} (h:zji S 405 tf405):Rt S k405 :=
 okrO (C:=[]) h rfl (fun x=>s405 x)
def tc406:TCode:=.seq (rg [om 2 cn]) (.seq (rg [om 3 0,oq 4 (.chk 3),oq 5 (.fa 1 4),oq 6 (.load none 5),oq 7 (.call true [] 72 [6]),om 2 7]) (.ret)) 
def tf406:TFunc:=⟨1,8,[.tmp 2],false,tc406,[4000]⟩
def S406 (a0:(LD×LY×ByteArray×Int×Int×Bool)):Option ((LD×LY×ByteArray×Int×Int×Bool)×LY) :=
 bno (F72 a0.2.1) fun y1 =>
 some ((a0.1,a0.2.1,a0.2.2.1,a0.2.2.2.1,a0.2.2.2.2.1,a0.2.2.2.2.2),y1)
def s406 (a0:((List Dim)×(List Entry)×ByteArray×Int×Int×Bool)):tf406.runO [⟨72,[(.sl .entry)],(.own .entry),fun x=>F72 x,false,[]⟩] [(.tp [(.sl .dim),(.sl .entry),.str,.int,.int,.bool])] (.tp [(.tp [(.sl .dim),(.sl .entry),.str,.int,.int,.bool]),(.own .entry)]) a0=S406 F72 a0:=by kernel_rfl
def P406:=S406 P72
def k406:CSpec:=⟨406,[(.tp [(.sl .dim),(.sl .entry),.str,.int,.int,.bool])],(.tp [(.tp [(.sl .dim),(.sl .entry),.str,.int,.int,.bool]),(.own .entry)]),fun x=>P406 x,false,[4000]⟩
def r406 {S:Seat} (h:zji S 406 tf406) (nI:Rt S k72):Rt S k406 :=
 okrO (C:=[k72]) h rfl (fun x=>s406 P72 x) nI
end
end Ab
