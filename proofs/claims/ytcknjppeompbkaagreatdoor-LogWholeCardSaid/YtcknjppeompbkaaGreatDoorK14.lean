import Derived.Test.YtcknjppeompbkaaGreatDoorMI
import Derived.Test.YtcknjppeompbkaaGreatDoorMSl
import Derived.Test.YtcknjppeompbkaaGreatDoorMC
set_option linter.all false
noncomputable section
namespace Ab
open Go
section
set_option maxRecDepth 100000
section
variable (F27:LD->LY->(Option Err)) (F55:LD->LY->Edit->(Option (LY×Err))) (F58:LD->LI->(Option Err)) (F59:LD->LI->(Option Bool)) (F60:Int->(Option Bool)) (F71:LD->LY->Edit->(Option (LY×Err))) (F72:LY->(Option LY)) (F73:LY->LI->(Option (Int×Bool))) (F76s:LI->(Option LI)) (F77:LY->Int->Int->(Option LY)) (F78:LY->Int->LY->(Option LY)) (F79:LY->(Option LY))
def tc72:TCode:=.seq (rg [om 2 cn]) (.seq (rg [om 5 0,oq 6 (.call true [] 79 [5]),om 0 6]) (.seq (.seq (rg [om 7 0,oq 8 (.len false 7),om 9 (ci 0)]) (.loop ⟨[.slot 9 .int,.rowH 6 .entry],[3,4,10,11,12,13,14,15,16,17,18,19,20,21],[4],[]⟩ 0 (.seq (rg [oq 10 (.bin .int .lss 9 8)]) (.seq (.cond 10 (.skip) (.exit 0)) (.seq (.block 1 (.seq (rg [om 11 9,oq 12 (.ia 2 7 9),oq 13 (.load (some 2) 12),oq 4 (.alloc [.slice none 0 0,.int .i64 0]),om 3 11,on (.store 2 4 13)]) (rg [om 14 0,om 15 3,oq 16 (.fa 0 4),oq 17 (.load none 16),oq 18 (.call true [] 76 [17]),oq 19 (.ia 2 14 15),oq 20 (.fa 0 19),on (.store 1 20 18)]))) (rg [oq 21 (.bin .int .add 9 (ci 1)),om 9 21])))))) (.seq (rg [om 22 0,om 2 22]) (.ret)))) 
def tf72:TFunc:=⟨1,23,[.tmp 2],true,tc72,[]⟩
def zef (y1:LY) (x2:(Int×LY)):Option (LR (Int×LY) LY) :=
 br (decide (x2.1 < (y1.length:Int)))
 (ck (decide (0<=x2.1∧x2.1 < (x2.2.length:Int))) <|
 bno ((x2.2)[(Int.toNat x2.1)]?) fun y3 =>
 bno (F76s (Entry.at_ y3)) fun y4 =>
 ck (decide (0<=x2.1∧x2.1 < (x2.2.length:Int))) <|
 bno ((x2.2)[(Int.toNat x2.1)]?) fun y5 =>
 nxO (some (wi (x2.1+(1:Int)),List.set x2.2 (Int.toNat x2.1) (Entry.mk y4 (Entry.n y5)))))
 (dnO (some (x2.1,x2.2)))
def S72 (a0:LY):Option LY :=
 bno (F79 a0) fun y1 =>
 lp (zef F76s y1) ((0:Int),y1) fun x6 =>
 some x6.2
def P72:=S72 P76s P79
def k72:CSpec:=⟨72,[(.sl .entry)],(.own .entry),fun x=>P72 x,false,[]⟩
def r72 {S:Seat} (h:Ok1 S 72 tf72):RtF S [k76s,k79] (Rt S k72):=okr h rfl fun x=>by kernel_rfl
def tc71:TCode:=.seq (rg [oq 3 (.box 0),oq 5 (.box 2),om 6 cn,om 7 cz]) (.seq (.seq (rg [oq 11 (.load (some 1) 3),oq 12 (.fa 0 5),oq 13 (.load none 12),oq 14 (.call false [] 58 [11,13]),om 8 14]) (.seq (rg [om 15 8,oq 16 (.eqn false true 15)]) (.cond 16 (.seq (rg [om 17 8,om 6 cn,om 7 17]) (.ret)) (.skip)))) (.seq (rg [om 19 1,oq 20 (.fa 0 5),oq 21 (.load none 20),oq 22 (.call false [] 73 [19,21]),om 18 22,oq 23 (.ext 18 0),oq 24 (.ext 18 1),om 9 23,om 10 24]) (.seq (.block 0 (.seq (.regionJ ⟨[.slot 25 .bool],[26,27,28,29,30,31],[],[]⟩ [oq 26 (.fa 2 5),oq 27 (.load none 26),om 28 27,og 29 (.mov 10) 28 true [],og 30 (.un .not 29) 28 true [],oq 31 (.pick 28 30 (cb false)),om 25 31] [] false) (.cond 25 (.seq (rg [oq 32 (.ifc 1 (ci 5)),om 6 cn,om 7 32]) (.ret)) (.seq (rg [oq 34 (.fa 2 5),oq 35 (.load none 34),om 33 35]) (.cond 33 (.seq (rg [om 36 1,om 37 9,om 38 9,oq 39 (.bin .int .add 38 (ci 1)),oq 40 (.call true [1000] 77 [36,37,39]),om 6 40,om 7 cz]) (.ret)) (.seq (rg [oq 42 (.load (some 1) 3),oq 43 (.fa 0 5),oq 44 (.load none 43),oq 45 (.call false [] 59 [42,44]),oq 46 (.un .not 45),om 41 46]) (.cond 41 (.seq (rg [oq 47 (.ifc 1 (ci 6)),om 6 cn,om 7 47]) (.ret)) (.seq (rg [oq 49 (.fa 1 5),oq 50 (.load none 49),oq 51 (.call false [] 60 [50]),oq 52 (.un .not 51),om 48 52]) (.cond 48 (.seq (rg [oq 53 (.ifc 1 (ci 1)),om 6 cn,om 7 53]) (.ret)) (.seq (rg [om 55 10,om 54 55]) (.cond 54 (.seq (rg [om 56 1,om 57 9,oq 58 (.fa 1 5),oq 59 (.load none 58),oq 60 (.ia 2 56 57),oq 61 (.fa 1 60),on (.store 1 61 59)]) (.seq (rg [om 62 1,om 6 62,om 7 cz]) (.ret))) (.skip)))))))))))) (.seq (.region [om 63 1,om 64 9,oq 65 (.fa 0 5),od 66 (.load none 65) [2],oq 68 (.fa 1 5),od 69 (.load none 68) [5],od 67 (.call true [3000] 76 [66]) [3],od 70 (.build [.slice none 0 0,.int .i64 0] [(0,1,67),(1,1,69)]) [4,6],od 71 (.bslice false 2 [.slice none 0 0,.int .i64 0] 1 [(0,70)]) [7],od 72 (.call true [1000,1002] 78 [63,64,71]) [0,1,8,4],od 6 (.mov 72) [9,9,0,1,2,3,4,5,6,7,8,9],od 7 (.mov cz) [10,0,1,2,3,4,5,6,7,8,9,10]] [.int,.int,.int,.int,.int,.int,.int,.int,.entry] true) (.ret))))) 
def tf71:TFunc:=⟨3,73,[.tmp 6,.tmp 7],false,tc71,[1001]⟩
def S71 (a0:LD) (a1:LY) (a2:Edit):Option (LY×Err) :=
 bno (F58 a0 (Edit.at_ a2)) fun y1 =>
 br (!(Err.isNil y1))
 (some (([]:List Entry),y1))
 (bno (F73 a1 (Edit.at_ a2)) fun y2 =>
 jn (σ:=Bool) (α:=((List Entry)×Err)) (br (Edit.clear a2)
 (zD (some (!y2.2)))
 (zD (some false))) fun x3 =>
 br x3
 (some (([]:List Entry),Err.no (5:Int)))
 (br (Edit.clear a2)
 (bno (F77 a1 y2.1 (wi (y2.1+(1:Int)))) fun y4 =>
 some (y4,Err.nil))
 (bno (F59 a0 (Edit.at_ a2)) fun y5 =>
 br (!y5)
 (some (([]:List Entry),Err.no (6:Int)))
 (bno (F60 (Edit.n a2)) fun y6 =>
 br (!y6)
 (some (([]:List Entry),Err.no (1:Int)))
 (br y2.2
 (ck (decide (0<=y2.1∧y2.1 < (a1.length:Int))) <|
 bno ((a1)[(Int.toNat y2.1)]?) fun y7 =>
 some (List.set a1 (Int.toNat y2.1) (Entry.mk (Entry.at_ y7) (Edit.n a2)),Err.nil))
 (bno (F76s (Edit.at_ a2)) fun y8 =>
 bno (F78 a1 y2.1 ([Entry.mk y8 (Edit.n a2)]:List Entry)) fun y9 =>
 some (y9,Err.nil)))))))
def s71 (a0:(List Dim)) (a1:(List Entry)) (a2:Edit):tf71.runM [⟨58,[(.st .outl),(.sl .int)],.err,fun x=>F58 x.1 x.2,false,[]⟩,
 ⟨59,[(.st .outl),(.sl .int)],.bool,fun x=>F59 x.1 x.2,false,[]⟩,
 ⟨60,[.int],.bool,fun x=>F60 x,false,[]⟩,
 ⟨73,[(.sl .entry),(.sl .int)],(.tp [.int,.bool]),fun x=>F73 x.1 x.2,false,[]⟩,
 ⟨76,[(.sl .int)],(.sl .int),fun x=>F76s x,false,[]⟩,
 ⟨77,[(.own .entry),.int,.int],(.own .entry),fun x=>F77 x.1 x.2.1 x.2.2,false,[1000]⟩,
 ⟨78,[(.own .entry),.int,(.own .entry)],(.own .entry),fun x=>F78 x.1 x.2.1 x.2.2,false,[1000,1002]⟩] [(.st .outl),(.own .entry),(.st .edit)] (.tp [(.own .entry),.err]) (a0,a1,a2)=S71 F58 F59 F60 F73 F76s F77 F78 a0 a1 a2:=by kernel_rfl
def P71:=S71 P58 P59 P60 P73 P76s P77 P78
def k71:CSpec:=⟨71,[(.st .outl),(.own .entry),(.st .edit)],(.tp [(.own .entry),.err]),fun x=>P71 x.1 x.2.1 x.2.2,false,[1001]⟩
def r71 {S:Seat} (h:Ok1 S 71 tf71) (h58:Rt S k58) (h59:Rt S k59) (h60:Rt S k60) (h73:Rt S k73) (nG:Rt S k76s) (nF:Rt S k77) (nE:Rt S k78):Rt S k71:=fun x y hy =>
 Ok1.soundM h (C:=[k58,k59,k60,k73,k76s,k77,k78]) (zW.cons h58 (zW.cons h59 (zW.cons h60 (zW.cons h73 (zW.cons nG (zW.cons nF (zW.cons nE zW.nil))))))) rfl rfl rfl rfl rfl rfl ((s71 P58 P59 P60 P73 P76s P77 P78 x.1 x.2.1 x.2.2).trans hy)
def S55 (a0:LD) (a1:LY) (a2:Edit):Option (LY×Err) :=
 bno (F27 a0 a1) fun y1 =>
 br (!(Err.isNil y1))
 (some (([]:List Entry),y1))
 (bno (F72 a1) fun y2 =>
 bno (F71 a0 y2 a2) fun y3 =>
 some (y3.1,y3.2))
def P55:=S55 P27 P71 P72
def S25 (a0:LD) (a1:LY) (a2:LI) (a3:Int):Option (LY×Err) :=
 bno (F55 a0 a1 (Edit.mk a2 a3 false)) fun y1 =>
 some (y1.1,y1.2)
def P25:=S25 P55
def k25:CSpec:=⟨25,[(.st .outl),(.sl .entry),(.sl .int),.int],(.tp [(.sl .entry),.err]),fun x=>P25 x.1 x.2.1 x.2.2.1 x.2.2.2,false,[]⟩
end
end
section
set_option maxRecDepth 100000
section
variable (F27:LD->LY->(Option Err)) (F33:Cell->Cell->Int->(Option Cell)) (F40:LD->(Option Int)) (F47:Dim->Int->(Option LI)) (F49:LD->LI->(Option Int)) (F51:LD->(Option Err)) (F52:Cell->(Option Err)) (F53:LC->(Option LC)) (F54:LD->LC->Int->(Option LC)) (F69:LD->Int->(Option LI)) (F70:LI->Int->Int->(Option LI)) (F76:LI->(Option LI)) (F8:Int->(Option Cell))
end
end
end Ab
