/-
  Functions of the program as typed code, what they come to, and their contracts: written by program (mk.py).
-/
import Derived.Test.YtckaniphjiniiaaGreatDoorHJ
import Derived.Test.YtckaniphjiniiaaGreatDoorMSb
set_option linter.all false
noncomputable section
namespace Ab
open Go
set_option maxRecDepth 100000
section
variable (F111:LD->LI->LI->(Option (Int×Err))) (F127:LD->LI->(Option ((List LI)×Err))) (F349:LD->LY->(Option Err)) (F384:Int->Int->(Option (LI×Err))) (F386:Int->LI->(Option (LI×Err))) (F57:LY->LI->(Option Cell))
def tc382:TCode:=.seq (rg [oq 4 (.box 0),om 8 cn,om 9 cz]) (.seq (.seq (rg [oq 25 (.load (some 1) 4),om 26 1,oq 27 (Cl 349 [25,26]),om 10 27]) (.seq (rg [om 28 10,oq 29 (.eqn false true 28)]) (.cond 29 (.seq (rg [om 30 10,om 8 cn,om 9 30]) .ret) .skip))) (.seq (rg [oq 32 (.load (some 1) 4),om 33 2,oq 34 (.call true [] 127 [32,33]),om 31 34,oq 35 (.ext 31 0),oq 36 (.ext 31 1),om 11 35,om 12 36]) (.seq (.seq (rg [om 37 12,oq 38 (.eqn false true 37)]) (.cond 38 (.seq (rg [om 39 12,om 8 cn,om 9 39]) .ret) .skip)) (.seq (.seq (rg [om 40 11,oq 41 (Ln 40),oq 42 (Bi .eql 41 (ci 0))]) (.cond 42 (.seq (rg [oq 43 (.ifc 1 (ci 3)),om 8 cn,om 9 43]) .ret) .skip)) (.seq (rg [om 13 (cb false),om 14 (cb false)]) (.seq (rg [om 15 cn]) (.seq (.seq (rg [om 44 11,oq 45 (Ln 44),om 46 (ci 0)]) (.loop ⟨[.slot 13 .bool,.slot 14 .bool,.row 15 82 .int,.slot 46 .int],[17,18,19,20,47,48,49,50,51,52,53,54,55,56,57,58,60,61,63,64,65,66,67,68,69,70,71,72,73,74,75,76,77,78,79,80,81,82,83],[20,81],[]⟩ 0 (.seq (rg [oq 47 (Bi .lss 46 45)]) (.seq (.cond 47 .skip (.exit 0)) (.seq (.block 1 (.seq (rg [oq 48 (.ia 1 44 46),oq 49 (Ld 48),om 17 49]) (.seq (rg [oq 51 (.load (some 1) 4),om 52 2,om 53 17,oq 54 (Cl 111 [51,52,53]),om 50 54,oq 55 (.ext 50 0),oq 56 (.ext 50 1),om 18 55,om 19 56]) (.seq (.seq (rg [om 57 19,oq 58 (.eqn false true 57)]) (.cond 58 (.seq (rg [om 59 19,om 8 cn,om 9 59]) .ret) .skip)) (.seq (.seq (rg [om 60 18,oq 61 (Bi .neq 60 (ci 1))]) (.cond 61 (.seq (rg [oq 62 (.ifc 1 (ci 3)),om 8 cn,om 9 62]) .ret) .skip)) (.seq (rg [om 63 1,om 64 17,oq 65 (Cl 57 [63,64]),oq 20 (.alloc [.int .i64 0,.int .i64 0]),on (.store 2 20 65)]) (.seq (.regionJ ⟨[.slot 13 .bool,.slot 14 .bool],[66,67,68,69,70,71,72,73,74,75,76,77],[],[]⟩ [om 66 13,od 67 (.mov 66) [0],og 68 (.fa 1 20) 67 false [1],og 69 (Ld 68) 67 false [2,1],og 70 (Bi .gtr 69 (ci 0)) 67 false [3,1],od 71 (.pick 67 (cb true) 70) [1,4],om 72 14,od 73 (.mov 72) [6,1],og 74 (.fa 1 20) 73 false [7],og 75 (Ld 74) 73 false [8,7],og 76 (Bi .lss 75 (ci 0)) 73 false [9,7],od 77 (.pick 73 (cb true) 76) [7,10],od 13 (.mov 71) [5,7,0,1,2,3,4,5],od 14 (.mov 77) [11,12,0,1,2,3,4,5,6,7,8,9,10,11,12]] [] true) (rg [om 78 15,oq 79 (.fa 1 20),oq 80 (Ld 79),oq 81 (.bslice false 1 [.int .i64 0] 1 [(0,80)]),oq 82 (.app 1 78 81),om 15 82])))))))) (rg [oq 83 (Bi .add 46 (ci 1)),om 46 83])))))) (.seq (.seq (rg [om 84 11,oq 85 (Ln 84),oq 86 (Bi .gtr 85 (ci 60))]) (.cond 86 (.seq (rg [oq 87 (.ifc 1 (ci 4)),om 8 cn,om 9 87]) .ret) .skip)) (.seq (rg [om 89 3,om 90 11,oq 91 (Ln 90),oq 92 (.call true [] 384 [89,91]),om 88 92,oq 93 (.ext 88 0),oq 94 (.ext 88 1),om 21 93,om 12 94]) (.seq (.seq (.regionJ ⟨[.slot 99 .bool],[95,96,97,98],[],[]⟩ [om 95 13,om 96 95,og 97 (.mov 14) 96 true [],og 98 (.un .not 97) 96 true [],oq 99 (.pick 96 98 (cb false))] [] false) (.condJ ⟨[.slot 12 .err,.slot 21 (.sl .int)],[100,101,102,103,104,105],[82],[]⟩ 99 (rg [om 101 3,om 102 15,oq 103 (.call true [] 386 [101,102]),om 100 103,oq 104 (.ext 100 0),oq 105 (.ext 100 1),om 21 104,om 12 105]) .skip)) (.seq (.seq (rg [om 106 12,oq 107 (.eqn false true 106)]) (.cond 107 (.seq (rg [om 108 12,om 8 cn,om 9 108]) .ret) .skip)) (.seq (rg [om 22 cn]) (.seq (.seq (rg [om 109 11,oq 110 (Ln 109),om 111 (ci 0)]) (.loop ⟨[.row 22 124 .edit,.slot 111 .int],[23,24,112,113,114,115,116,117,118,119,120,121,122,123,124,125],[123],[]⟩ 2 (.seq (rg [oq 112 (Bi .lss 111 110)]) (.seq (.cond 112 .skip (.exit 2)) (.seq (.block 3 (.seq (rg [om 113 111,oq 114 (.ia 1 109 111),oq 115 (Ld 114),om 23 113,om 24 115]) (.region [om 116 22,om 117 24,om 118 21,om 119 23,oq 120 (.ia 1 118 119),oq 121 (Ld 120),oq 122 (.build [.slice none 0 0,.int .i64 0,.bool false] [(0,1,117),(1,1,121)]),oq 123 (.bslice true 3 [.slice none 0 0,.int .i64 0,.bool false] 1 [(0,122)]),oq 124 (.app 3 116 123),om 22 124] [.int,.int,.int,.int,.int,.int,.int,.edit,.edit] false))) (rg [oq 125 (Bi .add 111 (ci 1)),om 111 125])))))) (.seq (rg [om 126 22,om 8 126,om 9 cz]) .ret)))))))))))))) 
def tf382:TFunc:=⟨4,127,[.tmp 8,.tmp 9],false,tc382,[]⟩
def zhK (a0:LD) (a1:LY) (a2:LI) (y2:((List LI)×Err)) (x3:(Bool×Bool×LI×Int)):Option (LR (Bool×Bool×LI×Int) ((List Edit)×Err)) :=
 br (decide (x3.2.2.2<(y2.1.length:Int)))
 (bno (zu y2.1 x3.2.2.2) fun y4 =>
 bno (F111 a0 a2 y4) fun y5 =>
 br (!(Err.isNil y5.2))
 (yk (some (([]:List Edit),y5.2)))
 (br (decide (¬y5.1=(1:Int)))
 (yk (some (([]:List Edit),Err.no (3:Int))))
 (bno (F57 a1 y4) fun y6 =>
 jn (σ:=(Bool×Bool)) (α:=(LR (Bool×Bool×(List Int)×Int) ((List Edit)×Err))) (br x3.1
 (br x3.2.1
 (zt (some (true,true)))
 (zt (some (true,decide ((Cell.n y6)<(0:Int))))))
 (br x3.2.1
 (zt (some (decide ((0:Int)<(Cell.n y6)),true)))
 (zt (some (decide ((0:Int)<(Cell.n y6)),decide ((Cell.n y6)<(0:Int))))))) fun x7 =>
 ck (decide (List.length x3.2.2.1+List.length ([Cell.n y6]:List Int)<=zC)) <|
 nxO (some (x7.1,x7.2,x3.2.2.1++([Cell.n y6]:List Int),wi (x3.2.2.2+(1:Int)))))))
 (dnO (some (x3.1,x3.2.1,x3.2.2.1,x3.2.2.2)))
def zhJ (y2:((List LI)×Err)) (bC:(Err×LI)) (bV:((List Edit)×Int)):Option (LR ((List Edit)×Int) ((List Edit)×Err)) :=
 br (decide (bV.2<(y2.1.length:Int)))
 (bno (zu y2.1 bV.2) fun cM =>
 bno (zu bC.2 bV.2) fun fq =>
 ck (decide (List.length bV.1+List.length ([Edit.mk cM fq false]:List Edit)<=zie)) <|
 nxO (some (bV.1++([Edit.mk cM fq false]:List Edit),wi (bV.2+(1:Int)))))
 (dnO (some (bV.1,bV.2)))
def S382 (a0:LD) (a1:LY) (a2:LI) (a3:Int):Option ((List Edit)×Err) :=
 bno (F349 a0 a1) fun y1 =>
 br (!(Err.isNil y1))
 (some (([]:List Edit),y1))
 (bno (F127 a0 a2) fun y2 =>
 br (!(Err.isNil y2.2))
 (some (([]:List Edit),y2.2))
 (br (decide ((y2.1.length:Int)=(0:Int)))
 (some (([]:List Edit),Err.no (3:Int)))
 (lp (zhK F111 F57 a0 a1 a2 y2) (false,false,([]:List Int),(0:Int)) fun x8 =>
 br (decide ((60:Int)<(y2.1.length:Int)))
 (some (([]:List Edit),Err.no (4:Int)))
 (bno (F384 a3 (y2.1.length:Int)) fun y9 =>
 jn (σ:=Bool) (α:=((List Edit)×Err)) (br x8.1
 (zt (some (!x8.2.1)))
 (zt (some false))) fun bn =>
 jn (σ:=(Err×(List Int))) (α:=((List Edit)×Err)) (br bn
 (bno (F386 a3 x8.2.2.1) fun cA =>
 zt (some (cA.2,cA.1)))
 (zt (some (y9.2,y9.1)))) fun bC =>
 br (!(Err.isNil bC.1))
 (some (([]:List Edit),bC.1))
 (lp (zhJ y2 bC) (([]:List Edit),(0:Int)) fun dk =>
 some (dk.1,Err.nil))))))
def P382:=S382 P111 P127 P349 P384 P386 P57
def k382:CSpec:=⟨382,[(.st .outl),(.sl .entry),(.sl .int),.int],(.tp [(.sl .edit),.err]),fun x=>P382 x.1 x.2.1 x.2.2.1 x.2.2.2,false,[]⟩
def r382 {S:Seat} (h:Ok1 S 382 tf382):RtF S [k111,k127,k349,k384,k386,k57] (Rt S k382):=okr h
end
end Ab
