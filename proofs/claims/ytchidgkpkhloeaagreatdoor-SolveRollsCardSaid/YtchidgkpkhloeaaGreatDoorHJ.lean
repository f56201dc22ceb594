import Derived.Test.YtchidgkpkhloeaaGreatDoorH1
set_option linter.unusedVariables false
noncomputable section
namespace Ab
open Go
section
set_option maxRecDepth 100000
section
variable (F27:LD->LY->(Option Err)) (F71:LD->LY->Edit->(Option (LY×Err))) (F72:LY->(Option LY))
end
end
section
set_option maxRecDepth 100000
section
variable (F113:LD->LI->LI->(Option (Int×Bool))) (F114:LD->LI->(Option Err)) (F27:LD->LY->(Option Err)) (F45:Dim->Int->Int->(Option (Int×Bool))) (F46:Dim->Int->(Option LI)) (F58:LD->LI->(Option Err)) (F59:LD->LI->(Option Bool))
def tc113:TCode:=.seq (rg [oq 3 (.box 0),om 6 (ci 0),om 7 (cb false)]) (.seq (rg [om 8 (ci 1)]) (.seq (.seq (rg [om 13 1,oq 14 (.len false 13),om 15 (ci 0)]) (.loop ⟨[.slot 8 .int,.slot 15 .int],[9,10,11,12,16,17,18,19,20,21,22,23,24,25,26,27,28,29,30,31,32,33,34,35,36,37,38,39],[],[]⟩ 0 (.seq (rg [oq 16 (.bin .int .lss 15 14)]) (.seq (.cond 16 (.skip) (.exit 0)) (.seq (.block 1 (.seq (rg [om 17 15,oq 18 (.ia 1 13 15),oq 19 (.load none 18),om 9 17,om 10 19]) (.seq (.region [oq 21 (.fa 0 3),od 22 (.load none 21) [0],om 23 9,od 24 (.ia 3 22 23) [1,2],od 25 (.load (some 3) 24) [3],om 26 10,om 27 2,om 28 9,od 29 (.ia 1 27 28) [6,7],od 30 (.load none 29) [8],od 31 (.call false [] 45 [25,26,30]) [4,5,9],od 20 (.mov 31) [10],od 32 (.ext 20 0) [11],od 33 (.ext 20 1) [11],od 11 (.mov 32) [12,10,0,1,2,3,4,5,6,7,8,9,10,11,12],od 12 (.mov 33) [13,14,0,1,2,3,4,5,6,7,8,9,10,11,12,13,14]] [] true) (.seq (.seq (rg [om 34 12,oq 35 (.un .not 34)]) (.cond 35 (.seq (rg [om 6 (ci 0),om 7 (cb false)]) (.ret)) (.skip))) (rg [om 36 8,om 37 11,oq 38 (.bin .int .mul 36 37),om 8 38]))))) (rg [oq 39 (.bin .int .add 15 (ci 1)),om 15 39])))))) (.seq (rg [om 40 8,om 6 40,om 7 (cb true)]) (.ret)))) 
def tf113:TFunc:=⟨3,41,[.tmp 6,.tmp 7],false,tc113,[]⟩
def zhA (a0:LD) (a1:LI) (a2:LI) (x1:(Int×Int)):Option (LR (Int×Int) (Int×Bool)) :=
 br (decide (x1.2 < ((List.length a1:Nat):Int)))
 (bno (zx a1 x1.2) fun y2 =>
 bno (zx a0 x1.2) fun y3 =>
 bno (zx a2 x1.2) fun y4 =>
 bno (F45 y3 y2 y4) fun y5 =>
 br (!y5.2)
 (yl (some ((0:Int),false)))
 (nxO (some (wi (x1.1 * y5.1),wi (x1.2+(1:Int))))))
 (dnO (some (x1.1,x1.2)))
def S113 (a0:LD) (a1:LI) (a2:LI):Option (Int×Bool) :=
 lp (zhA F45 a0 a1 a2) ((1:Int),(0:Int)) fun x6 =>
 some (x6.1,true)
def P113:=S113 P45
def k113:CSpec:=⟨113,[(.st .outl),(.sl .int),(.sl .int)],(.tp [.int,.bool]),fun x=>P113 x.1 x.2.1 x.2.2,false,[]⟩
theorem r113 {S:Seat} (h:Ok1 S 113 tf113):RtF S [k45] (Rt S k113):=okr h rfl fun x=>by kernel_rfl
def tc110:TCode:=.seq (rg [oq 3 (.box 0),oq 6 (.alloc [.int .i64 0,.int .i64 0]),om 7 cz]) (.seq (.seq (rg [oq 15 (.load (some 1) 3),om 16 1,oq 17 (.call false [] 27 [15,16]),om 8 17]) (.seq (rg [om 18 8,oq 19 (.eqn false true 18)]) (.cond 19 (.seq (rg [oq 20 (.build [.int .i64 0,.int .i64 0] []),om 21 8,on (.store 2 6 20),om 7 21]) (.ret)) (.skip)))) (.seq (.seq (rg [oq 22 (.load (some 1) 3),om 23 2,oq 24 (.call false [] 58 [22,23]),om 9 24]) (.seq (rg [om 25 9,oq 26 (.eqn false true 25)]) (.cond 26 (.seq (rg [oq 27 (.build [.int .i64 0,.int .i64 0] []),om 28 9,on (.store 2 6 27),om 7 28]) (.ret)) (.skip)))) (.seq (rg [oq 10 (.alloc [.int .i64 0,.int .i64 0])]) (.seq (.seq (rg [om 29 1,oq 30 (.len false 29),om 31 (ci 0)]) (.loop ⟨[.slot 31 .int,.var 10 [.sh .int,.sh .int]],[12,13,14,32,33,34,35,36,37,38,39,40,41,42,43,44,45,46,47,48,49,50,51,52,53,54,55,56,57],[12],[]⟩ 0 (.seq (rg [oq 32 (.bin .int .lss 31 30)]) (.seq (.cond 32 (.skip) (.exit 0)) (.seq (.block 1 (.seq (rg [oq 33 (.ia 2 29 31),oq 34 (.load (some 2) 33),oq 12 (.alloc [.slice none 0 0,.int .i64 0]),on (.store 2 12 34)]) (.seq (rg [oq 36 (.load (some 1) 3),om 37 2,oq 38 (.fa 0 12),oq 39 (.load none 38),oq 40 (.call false [] 113 [36,37,39]),om 35 40,oq 41 (.ext 35 0),oq 42 (.ext 35 1),om 13 41,om 14 42]) (.seq (.regionJ ⟨[.slot 47 .bool],[43,44,45,46],[],[]⟩ [om 43 14,om 44 43,og 45 (.mov 13) 44 true [],og 46 (.bin .int .neq 45 (ci 0)) 44 true [],oq 47 (.pick 44 46 (cb false))] [] false) (.condJ ⟨[.var 10 [.sh .int,.sh .int]],[48,49,50,51,52,53,54,55,56],[],[]⟩ 47 (.seq (rg [oq 48 (.fa 0 10),on (.store 1 48 (ci 1))]) (rg [oq 49 (.fa 1 10),oq 50 (.load none 49),om 51 13,oq 52 (.fa 1 12),oq 53 (.load none 52),oq 54 (.bin .int .mul 51 53),oq 55 (.bin .int .add 50 54),oq 56 (.fa 1 10),on (.store 1 56 55)])) (.skip)))))) (rg [oq 57 (.bin .int .add 31 (ci 1)),om 31 57])))))) (.seq (rg [oq 58 (.load (some 2) 10),on (.store 2 6 58),om 7 cz]) (.ret)))))) 
def tf110:TFunc:=⟨3,59,[.cell 6 (some 2),.tmp 7],false,tc110,[]⟩
def zdg (a0:LD) (a1:LY) (a2:LI) (x3:(Int×(Int×Int))):Option (LR (Int×(Int×Int)) (Cell×Err)) :=
 br (decide (x3.1 < ((List.length a1:Nat):Int)))
 (bno (zx a1 x3.1) fun y4 =>
 bno (F113 a0 a2 (Entry.at_ y4)) fun y5 =>
 jn (σ:=Bool) (α:=(LR (Int×(Int×Int)) (Cell×Err))) (br y5.2
 (zD (some (decide (¬ y5.1=(0:Int)))))
 (zD (some false))) fun x6 =>
 jn (σ:=(Int×Int)) (α:=(LR (Int×(Int×Int)) (Cell×Err))) (br x6
 (zD (some ((1:Int),wi (x3.2.2+(wi (y5.1 * (Entry.n y4)))))))
 (zD (some (x3.2.1,x3.2.2)))) fun x7 =>
 nxO (some (wi (x3.1+(1:Int)),(x7.1,x7.2))))
 (dnO (some (x3.1,(x3.2.1,x3.2.2))))
def S110 (a0:LD) (a1:LY) (a2:LI):Option (Cell×Err) :=
 bno (F27 a0 a1) fun y1 =>
 br (!(Err.isNil y1))
 (some (Cell.mk (0:Int) (0:Int),y1))
 (bno (F58 a0 a2) fun y2 =>
 br (!(Err.isNil y2))
 (some (Cell.mk (0:Int) (0:Int),y2))
 (lp (zdg F113 a0 a1 a2) ((0:Int),((0:Int),(0:Int))) fun x8 =>
 some (Cell.mk x8.2.1 x8.2.2,Err.nil)))
def P110:=S110 P113 P27 P58
def k110:CSpec:=⟨110,[(.st .outl),(.sl .entry),(.sl .int)],(.tp [(.st .cell),.err]),fun x=>P110 x.1 x.2.1 x.2.2,false,[]⟩
theorem r110 {S:Seat} (h:Ok1 S 110 tf110):RtF S [k113,k27,k58] (Rt S k110):=okr h rfl fun x=>by kernel_rfl
end
end
end Ab
