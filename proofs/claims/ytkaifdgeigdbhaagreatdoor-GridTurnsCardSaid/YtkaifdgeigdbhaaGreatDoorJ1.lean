import Derived.Test.YtkaifdgeigdbhaaGreatDoorH7
open List (length_map length_singleton map_nil range_succ)
set_option linter.unusedVariables false
set_option linter.unusedSimpArgs false
noncomputable section
namespace Ab
open Go
section
set_option maxRecDepth 100000
section
variable (F349:LD->LY->(Option Err)) (F350:LD->LY->(Option (Solver×Err))) (F351:Solver->LI->(Option Cell)) (F58:LD->LI->(Option Err)) (F70:LI->Int->Int->(Option LI))
def tc377:TCode:=.seq (rg [oq 5 (.box 0),oq 10 (.alloc [.slice none 0 0,.slice none 0 0,.slice none 0 0]),om 11 cz]) (.seq (.seq (rg [oq 21 (.load (some 1) 5),om 22 1,oq 23 (.call false [] 349 [21,22]),om 12 23]) (.seq (rg [om 24 12,oq 25 (.eqn false true 24)]) (.cond 25 (.seq (rg [oq 26 (.build [.slice none 0 0,.slice none 0 0,.slice none 0 0] []),om 27 12,on (.store 3 10 26),om 11 27]) (.ret)) (.skip)))) (.seq (.seq (rg [oq 28 (.load (some 1) 5),om 29 2,oq 30 (.call false [] 58 [28,29]),om 13 30]) (.seq (rg [om 31 13,oq 32 (.eqn false true 31)]) (.cond 32 (.seq (rg [oq 33 (.build [.slice none 0 0,.slice none 0 0,.slice none 0 0] []),om 34 13,on (.store 3 10 33),om 11 34]) (.ret)) (.skip)))) (.seq (.block 0 (.seq (.regionJ ⟨[.slot 35 .bool],[36,37,38,39,40,41,42,43,44,45,46,47,48,49,50,51,52,53],[],[]⟩ [om 36 3,oq 37 (.bin .int .lss 36 (ci 0)),om 38 37,og 39 (.mov 3) 38 false [],og 40 (.mov 2) 38 false [],og 41 (.len false 40) 38 false [],og 42 (.bin .int .geq 39 41) 38 false [],oq 43 (.pick 38 (cb true) 42),om 44 43,og 45 (.mov 4) 44 false [],og 46 (.bin .int .lss 45 (ci 0)) 44 false [],oq 47 (.pick 44 (cb true) 46),om 48 47,og 49 (.mov 4) 48 false [],og 50 (.mov 2) 48 false [],og 51 (.len false 50) 48 false [],og 52 (.bin .int .geq 49 51) 48 false [],oq 53 (.pick 48 (cb true) 52),om 35 53] [] false) (.cond 35 (.seq (rg [oq 54 (.build [.slice none 0 0,.slice none 0 0,.slice none 0 0] []),oq 55 (.ifc 1 (ci 1)),on (.store 3 10 54),om 11 55]) (.ret)) (.seq (rg [om 57 3,om 58 4,oq 59 (.bin .int .eql 57 58),om 56 59]) (.cond 56 (.seq (rg [oq 60 (.build [.slice none 0 0,.slice none 0 0,.slice none 0 0] []),oq 61 (.ifc 1 (ci 3)),on (.store 3 10 60),om 11 61]) (.ret)) (.skip)))))) (.seq (rg [oq 63 (.load (some 1) 5),om 64 1,oq 65 (.call true [] 350 [63,64]),om 62 65,oq 66 (.ext 62 0),oq 67 (.ext 62 1),om 14 66,om 15 67]) (.seq (.seq (rg [om 68 15,oq 69 (.eqn false true 68)]) (.cond 69 (.seq (rg [oq 70 (.build [.slice none 0 0,.slice none 0 0,.slice none 0 0] []),om 71 15,on (.store 3 10 70),om 11 71]) (.ret)) (.skip))) (.seq (rg [oq 16 (.alloc [.slice none 0 0,.slice none 0 0,.slice none 0 0])]) (.seq (.seq (rg [oq 72 (.fa 0 5),oq 73 (.load none 72),om 74 4,oq 75 (.ia 3 73 74),oq 76 (.fa 2 75),oq 77 (.load none 76),oq 78 (.len false 77),om 79 (ci 0)]) (.loop ⟨[.slot 79 .int,.var 16 [.row 103 .int,.row 86 .int,.row 132 (.sl .cell)]],[17,80,81,82,83,84,85,86,87,88],[85],[]⟩ 1 (.seq (rg [oq 80 (.bin .int .lss 79 78)]) (.seq (.cond 80 (.skip) (.exit 1)) (.seq (.block 2 (.seq (rg [om 81 79,om 17 81]) (rg [oq 82 (.fa 1 16),oq 83 (.load none 82),om 84 17,oq 85 (.bslice false 1 [.int .i64 0] 1 [(0,84)]),oq 86 (.app 1 83 85),oq 87 (.fa 1 16),on (.store 1 87 86)]))) (rg [oq 88 (.bin .int .add 79 (ci 1)),om 79 88])))))) (.seq (.seq (rg [oq 89 (.fa 0 5),oq 90 (.load none 89),om 91 3,oq 92 (.ia 3 90 91),oq 93 (.fa 2 92),oq 94 (.load none 93),oq 95 (.len false 94),om 96 (ci 0)]) (.loop ⟨[.slot 96 .int,.var 16 [.row 103 .int,.row 86 .int,.row 132 (.sl .cell)]],[18,19,20,97,98,99,100,101,102,103,104,105,106,107,108,109,110,111,112,113,114,115,116,117,118,119,120,121,122,123,124,125,126,127,128,129,130,131,132,133,134],[102,125,126,131],[]⟩ 3 (.seq (rg [oq 97 (.bin .int .lss 96 95)]) (.seq (.cond 97 (.skip) (.exit 3)) (.seq (.block 4 (.seq (rg [om 98 96,om 18 98]) (.seq (rg [oq 99 (.fa 0 16),oq 100 (.load none 99),om 101 18,oq 102 (.bslice false 1 [.int .i64 0] 1 [(0,101)]),oq 103 (.app 1 100 102),oq 104 (.fa 0 16),on (.store 1 104 103)]) (.seq (rg [om 19 cn]) (.seq (.seq (rg [oq 105 (.fa 0 5),oq 106 (.load none 105),om 107 4,oq 108 (.ia 3 106 107),oq 109 (.fa 2 108),oq 110 (.load none 109),oq 111 (.len false 110),om 112 (ci 0)]) (.loop ⟨[.row 19 126 .cell,.slot 112 .int],[20,113,114,115,116,117,118,119,120,121,122,123,124,125,126,127],[125],[]⟩ 5 (.seq (rg [oq 113 (.bin .int .lss 112 111)]) (.seq (.cond 113 (.skip) (.exit 5)) (.seq (.block 6 (.seq (rg [om 114 112,om 20 114]) (.region [om 115 19,om 116 14,om 117 2,om 118 3,om 119 18,oq 120 (.call true [] 70 [117,118,119]),om 121 4,om 122 20,oq 123 (.call true [] 70 [120,121,122]),oq 124 (.call false [] 351 [116,123]),oq 125 (.bslice false 2 [.int .i64 0,.int .i64 0] 1 [(0,124)]),oq 126 (.app 2 115 125),om 19 126] [.int,.int,.int,.int,.int,.int,.int,.int,.int,.int,.cell,.cell] false))) (rg [oq 127 (.bin .int .add 112 (ci 1)),om 112 127])))))) (.region [oq 128 (.fa 2 16),oq 129 (.load none 128),om 130 19,oq 131 (.bslice true 1 [.slice none 0 0] 1 [(0,130)]),oq 132 (.app 1 129 131),oq 133 (.fa 2 16),on (.store 1 133 132)] [.int,.int,.int,(.sl .cell),(.sl .cell)] false)))))) (rg [oq 134 (.bin .int .add 96 (ci 1)),om 96 134])))))) (.seq (rg [oq 135 (.load (some 3) 16),on (.store 3 10 135),om 11 cz]) (.ret)))))))))) 
def tf377:TFunc:=⟨5,136,[.cell 10 (some 3),.tmp 11],false,tc377,[]⟩
def S377_L1 (y5:Dim) (x6:(Int×(LI×LI×(List LC)))):Option (LR (Int×(LI×LI×(List LC))) (Grid×Err)) :=
 br (decide (x6.1 < ((List.length (Dim.members y5):Nat):Int)))
 (ck (decide (List.length x6.2.2.1+List.length ([x6.1]:List Int)<=zF)) <|
 nxO (some (wi (x6.1+(1:Int)),(x6.2.1,x6.2.2.1++([x6.1]:List Int),x6.2.2.2))))
 (dnO (some (x6.1,(x6.2.1,x6.2.2.1,x6.2.2.2))))
def S377_L2 (a2:LI) (a3:Int) (a4:Int) (y4:(Solver×Err)) (x9:(Int×(LI×LI×(List LC)))) (y10:Dim) (x11:(LC×Int)):Option (LR (LC×Int) (LR (Int×(LI×LI×(List LC))) (Grid×Err))) :=
 br (decide (x11.2 < ((List.length (Dim.members y10):Nat):Int)))
 (bno (F70 a2 a3 x9.1) fun y12 =>
 bno (F70 y12 a4 x11.2) fun y13 =>
 bno (F351 y4.1 y13) fun y14 =>
 ck (decide (List.length x11.1+List.length ([y14]:List Cell)<=zF)) <|
 nxO (some (x11.1++([y14]:List Cell),wi (x11.2+(1:Int)))))
 (dnO (some (x11.1,x11.2)))
def S377_L3 (a0:LD) (a2:LI) (a3:Int) (a4:Int) (y4:(Solver×Err)) (y8:Dim) (x9:(Int×(LI×LI×(List LC)))):Option (LR (Int×(LI×LI×(List LC))) (Grid×Err)) :=
 br (decide (x9.1 < ((List.length (Dim.members y8):Nat):Int)))
 (ck (decide (List.length x9.2.1+List.length ([x9.1]:List Int)<=zF)) <|
 bno (zn a0 a4) fun y10 =>
 lp (S377_L2 F351 F70 a2 a3 a4 y4 x9 y10) (([]:List Cell),(0:Int)) fun x15 =>
 ck (decide (List.length x9.2.2.2+List.length ([x15.1]:List (List Cell))<=zF)) <|
 nxO (some (wi (x9.1+(1:Int)),(x9.2.1++([x9.1]:List Int),x9.2.2.1,x9.2.2.2++([x15.1]:List (List Cell))))))
 (dnO (some (x9.1,(x9.2.1,x9.2.2.1,x9.2.2.2))))
def S377 (a0:LD) (a1:LY) (a2:LI) (a3:Int) (a4:Int):Option (Grid×Err) :=
 bno (F349 a0 a1) fun y1 =>
 br (!(Err.isNil y1))
 (some (Grid.mk ([]:List Int) ([]:List Int) ([]:List (List Cell)),y1))
 (bno (F58 a0 a2) fun y2 =>
 br (!(Err.isNil y2))
 (some (Grid.mk ([]:List Int) ([]:List Int) ([]:List (List Cell)),y2))
 (jn (σ:=Bool) (α:=(Grid×Err)) (br (decide (a3 < (0:Int)))
 (zB (some true))
 (br (decide (((List.length a2:Nat):Int)<=a3))
 (zB (some true))
 (br (decide (a4 < (0:Int)))
 (zB (some true))
 (zB (some (decide (((List.length a2:Nat):Int)<=a4))))))) fun x3 =>
 br x3
 (some (Grid.mk ([]:List Int) ([]:List Int) ([]:List (List Cell)),Err.no (1:Int)))
 (br (decide (a3=a4))
 (some (Grid.mk ([]:List Int) ([]:List Int) ([]:List (List Cell)),Err.no (3:Int)))
 (bno (F350 a0 a1) fun y4 =>
 br (!(Err.isNil y4.2))
 (some (Grid.mk ([]:List Int) ([]:List Int) ([]:List (List Cell)),y4.2))
 (bno (zn a0 a4) fun y5 =>
 lp (S377_L1 y5) ((0:Int),(([]:List Int),([]:List Int),([]:List (List Cell)))) fun x7 =>
 bno (zn a0 a3) fun y8 =>
 lp (S377_L3 F351 F70 a0 a2 a3 a4 y4 y8) ((0:Int),(x7.2.1,x7.2.2.1,x7.2.2.2)) fun x16 =>
 some (Grid.mk x16.2.1 x16.2.2.1 x16.2.2.2,Err.nil))))))
theorem s377 (a0:(List Dim)) (a1:(List Entry)) (a2:(List Int)) (a3:Int) (a4:Int):tf377.run [⟨349,[(.st .outl),(.sl .entry)],.err,fun x=>F349 x.1 x.2,false,[]⟩,
 ⟨350,[(.st .outl),(.sl .entry)],(.tp [(.bx .solver),.err]),fun x=>F350 x.1 x.2,false,[]⟩,
 ⟨351,[(.bx .solver),(.sl .int)],(.st .cell),fun x=>F351 x.1 x.2,false,[]⟩,
 ⟨58,[(.st .outl),(.sl .int)],.err,fun x=>F58 x.1 x.2,false,[]⟩,
 ⟨70,[(.sl .int),.int,.int],(.sl .int),fun x=>F70 x.1 x.2.1 x.2.2,false,[]⟩] [(.st .outl),(.sl .entry),(.sl .int),.int,.int] (.tp [(.st .grid),.err]) (a0,a1,a2,a3,a4)=S377 F349 F350 F351 F58 F70 a0 a1 a2 a3 a4:=by kernel_rfl
end
end
section
set_option maxRecDepth 100000
section
variable (F351:Solver->LI->(Option Cell)) (F70:LI->Int->Int->(Option LI))
def tc1377:TCode:=.seq (rg [oq 16 (.alloc [.slice none 0 0,.slice none 0 0,.slice none 0 0])]) (.seq (.seq (rg [oq 72 (.fa 0 5),oq 73 (.load none 72),om 74 4,oq 75 (.ia 3 73 74),oq 76 (.fa 2 75),oq 77 (.load none 76),oq 78 (.len false 77),om 79 (ci 0)]) (.loop ⟨[.slot 79 .int,.var 16 [.row 103 .int,.row 86 .int,.row 132 (.sl .cell)]],[17,80,81,82,83,84,85,86,87,88],[85],[]⟩ 1 (.seq (rg [oq 80 (.bin .int .lss 79 78)]) (.seq (.cond 80 (.skip) (.exit 1)) (.seq (.block 2 (.seq (rg [om 81 79,om 17 81]) (rg [oq 82 (.fa 1 16),oq 83 (.load none 82),om 84 17,oq 85 (.bslice false 1 [.int .i64 0] 1 [(0,84)]),oq 86 (.app 1 83 85),oq 87 (.fa 1 16),on (.store 1 87 86)]))) (rg [oq 88 (.bin .int .add 79 (ci 1)),om 79 88])))))) (.seq (.seq (rg [oq 89 (.fa 0 5),oq 90 (.load none 89),om 91 3,oq 92 (.ia 3 90 91),oq 93 (.fa 2 92),oq 94 (.load none 93),oq 95 (.len false 94),om 96 (ci 0)]) (.loop ⟨[.slot 96 .int,.var 16 [.row 103 .int,.row 86 .int,.row 132 (.sl .cell)]],[18,19,20,97,98,99,100,101,102,103,104,105,106,107,108,109,110,111,112,113,114,115,116,117,118,119,120,121,122,123,124,125,126,127,128,129,130,131,132,133,134],[102,125,126,131],[]⟩ 3 (.seq (rg [oq 97 (.bin .int .lss 96 95)]) (.seq (.cond 97 (.skip) (.exit 3)) (.seq (.block 4 (.seq (rg [om 98 96,om 18 98]) (.seq (rg [oq 99 (.fa 0 16),oq 100 (.load none 99),om 101 18,oq 102 (.bslice false 1 [.int .i64 0] 1 [(0,101)]),oq 103 (.app 1 100 102),oq 104 (.fa 0 16),on (.store 1 104 103)]) (.seq (rg [om 19 cn]) (.seq (.seq (rg [oq 105 (.fa 0 5),oq 106 (.load none 105),om 107 4,oq 108 (.ia 3 106 107),oq 109 (.fa 2 108),oq 110 (.load none 109),oq 111 (.len false 110),om 112 (ci 0)]) (.loop ⟨[.row 19 126 .cell,.slot 112 .int],[20,113,114,115,116,117,118,119,120,121,122,123,124,125,126,127],[125],[]⟩ 5 (.seq (rg [oq 113 (.bin .int .lss 112 111)]) (.seq (.cond 113 (.skip) (.exit 5)) (.seq (.block 6 (.seq (rg [om 114 112,om 20 114]) (.region [om 115 19,om 116 14,om 117 2,om 118 3,om 119 18,oq 120 (.call true [] 70 [117,118,119]),om 121 4,om 122 20,oq 123 (.call true [] 70 [120,121,122]),oq 124 (.call false [] 351 [116,123]),oq 125 (.bslice false 2 [.int .i64 0,.int .i64 0] 1 [(0,124)]),oq 126 (.app 2 115 125),om 19 126] [.int,.int,.int,.int,.int,.int,.int,.int,.int,.int,.cell,.cell] false))) (rg [oq 127 (.bin .int .add 112 (ci 1)),om 112 127])))))) (.region [oq 128 (.fa 2 16),oq 129 (.load none 128),om 130 19,oq 131 (.bslice true 1 [.slice none 0 0] 1 [(0,130)]),oq 132 (.app 1 129 131),oq 133 (.fa 2 16),on (.store 1 133 132)] [.int,.int,.int,(.sl .cell),(.sl .cell)] false)))))) (rg [oq 134 (.bin .int .add 96 (ci 1)),om 96 134])))))) (.seq (rg [oq 135 (.load (some 3) 16),on (.store 3 10 135),om 11 cz]) (.ret)))) 
def zhC:TFunc:=⟨0,136,[.cell 10 (some 3),.tmp 11],false,tc1377,[]⟩
def zb2 (y1:Dim) (x2:(Int×(LI×LI×(List LC)))):Option (LR (Int×(LI×LI×(List LC))) (Grid×Err)) :=
 br (decide (x2.1 < ((List.length (Dim.members y1):Nat):Int)))
 (ck (decide (List.length x2.2.2.1+List.length ([x2.1]:List Int)<=zF)) <|
 nxO (some (wi (x2.1+(1:Int)),(x2.2.1,x2.2.2.1++([x2.1]:List Int),x2.2.2.2))))
 (dnO (some (x2.1,(x2.2.1,x2.2.2.1,x2.2.2.2))))
def zaP (a0:LI) (a1:Int) (a2:Int) (a4:Solver) (x5:(Int×(LI×LI×(List LC)))) (y6:Dim) (x7:(LC×Int)):Option (LR (LC×Int) (LR (Int×(LI×LI×(List LC))) (Grid×Err))) :=
 br (decide (x7.2 < ((List.length (Dim.members y6):Nat):Int)))
 (bno (F70 a0 a1 x5.1) fun y8 =>
 bno (F70 y8 a2 x7.2) fun y9 =>
 bno (F351 a4 y9) fun y10 =>
 ck (decide (List.length x7.1+List.length ([y10]:List Cell)<=zF)) <|
 nxO (some (x7.1++([y10]:List Cell),wi (x7.2+(1:Int)))))
 (dnO (some (x7.1,x7.2)))
def zb1 (a0:LI) (a1:Int) (a2:Int) (a3:LD) (a4:Solver) (y4:Dim) (x5:(Int×(LI×LI×(List LC)))):Option (LR (Int×(LI×LI×(List LC))) (Grid×Err)) :=
 br (decide (x5.1 < ((List.length (Dim.members y4):Nat):Int)))
 (ck (decide (List.length x5.2.1+List.length ([x5.1]:List Int)<=zF)) <|
 bno (zn a3 a2) fun y6 =>
 lp (zaP F351 F70 a0 a1 a2 a4 x5 y6) (([]:List Cell),(0:Int)) fun x11 =>
 ck (decide (List.length x5.2.2.2+List.length ([x11.1]:List (List Cell))<=zF)) <|
 nxO (some (wi (x5.1+(1:Int)),(x5.2.1++([x5.1]:List Int),x5.2.2.1,x5.2.2.2++([x11.1]:List (List Cell))))))
 (dnO (some (x5.1,(x5.2.1,x5.2.2.1,x5.2.2.2))))
def S1377 (a0:LI) (a1:Int) (a2:Int) (a3:LD) (a4:Solver):Option (Grid×Err) :=
 bno (zn a3 a2) fun y1 =>
 lp (zb2 y1) ((0:Int),(([]:List Int),([]:List Int),([]:List (List Cell)))) fun x3 =>
 bno (zn a3 a1) fun y4 =>
 lp (zb1 F351 F70 a0 a1 a2 a3 a4 y4) ((0:Int),(x3.2.1,x3.2.2.1,x3.2.2.2)) fun x12 =>
 some (Grid.mk x12.2.1 x12.2.2.1 x12.2.2.2,Err.nil)
theorem s1377 (a0:(List Int)) (a1:Int) (a2:Int) (a3:(List Dim)) (a4:Solver):zhC.runFrom [⟨351,[(.bx .solver),(.sl .int)],(.st .cell),fun x=>F351 x.1 x.2,false,[]⟩,
 ⟨70,[(.sl .int),.int,.int],(.sl .int),fun x=>F70 x.1 x.2.1 x.2.2,false,[]⟩] { fr:=[(10,.pv 10 0),(2,enc (.sl .int) a0),(3,enc .int a1),(4,enc .int a2),(5,enc (.bx .outl) a3),(14,enc (.bx .solver) a4)],hp:=[(10,.var [.nl,.nl,.nl])],ctr:=1 } (.tp [(.st .grid),.err])=S1377 F351 F70 a0 a1 a2 a3 a4:=by kernel_rfl
end
end
section
def zeJ (o:List Dim) (i:Nat):Nat:=((o[i]?).map fun d=>d.members.length).getD 0
def qz (n:Nat):List Int:=(List.range n).map fun (k:Nat)=>(k:Int)
def qi (n:Nat) (f:Nat->Cell):List Cell:=(List.range n).map f
def qp (nr nc:Nat) (f:Nat->Nat->Cell):Grid:=⟨qz nr,qz nc,(List.range nr).map fun i=>qi nc (f i)⟩
def atG (o:List Dim) (l:List Entry) (p:List Int) (r c:Nat) (i k:Nat):Cell:=sol o l ((p.set r (i:Int)).set c (k:Int))
def yN (o:List Dim) (l:List Entry) (p:List Int) (r c:Nat):Grid:=qp (zeJ o r) (zeJ o c) (atG o l p r c)
def zaD (o:List Dim) (l:List Entry) (p:List Int) (row col:Int):Int :=
 if ¬ zbc o l=0 then zbc o l else if ¬ yx o p=0 then yx o p else if row < 0∨((p.length:Nat):Int)<=row∨col < 0∨((p.length:Nat):Int)<=col then 1 else if row=col then 3 else 0
theorem zd0 (i:Nat):qz i++[(i:Int)]=qz (i+1):=by simp[qz,range_succ]
theorem qK (i:Nat):(qz i).length=i:=by simp[qz]
theorem S377_err {o:List Dim} {l:List Entry} (hl:Lst Entry.gd l) {p:List Int} (hp:p.length<=9223372036854775807) {row col:Int} (h:zaD o l p row col≠0) :
  S377 P349 (fun _ _=>none) (fun _ _=>none) P58 P70 o l p row col=some (⟨[],[],[]⟩,zq (zaD o l p row col)):=by
 simp only[S377,zbm hl,zdd o p hp,zl,zZ];unfold zaD at h ⊢;by_cases h1:zbc o l=0
 ·rw[if_neg (fun e=>e h1)] at h ⊢;simp only[h1,decide_true,Bool.not_true,zg];by_cases h2:yx o p=0
  ·rw[if_neg (fun e=>e h2)] at h ⊢;simp only[h2,decide_true,Bool.not_true,zg];by_cases h3:row < 0∨((p.length:Nat):Int)<=row∨col < 0∨((p.length:Nat):Int)<=col
   ·rw[if_pos h3];have:(br (decide (row < (0:Int))) (zB (α:=Grid×Err) (some true)) (br (decide (((List.length p:Nat):Int)<=row)) (zB (some true)) (br (decide (col < (0:Int))) (zB (some true)) (zB (some (decide (((List.length p:Nat):Int)<=col)))))))=some (.inl true):=by
     simp only[zu,zM];split
     ·rfl
     ·split
      ·rfl
      ·split
       ·rfl
       ·rw[decide_eq_true (by omega)]
    rw[this];rfl
   ·rw[if_neg h3] at h ⊢;have e1:¬ row < 0:=fun e=>h3 (.inl e);have e2:¬ ((p.length:Nat):Int)<=row:=fun e=>h3 (.inr (.inl e));have e3:¬ col < 0:=fun e=>h3 (.inr (.inr (.inl e)));have e4:¬ ((p.length:Nat):Int)<=col:=fun e=>h3 (.inr (.inr (.inr e)));by_cases h4:row=col
    ·rw[if_pos h4];simp only[decide_eq_false e1,decide_eq_false e2,decide_eq_false e3,decide_eq_false e4,zg,zM,ji,decide_eq_true h4,zo];rfl
    ·rw[if_neg h4] at h;exact absurd rfl h
  ·rw[if_pos h2];simp only[decide_eq_false h2,Bool.not_false,zo]
 ·rw[if_pos h1];simp only[decide_eq_false h1,Bool.not_false,zo]
theorem make_ok {o:List Dim} {l:List Entry} (hl:Lst Entry.gd l) {p:List Int} {row col:Int} (h:zaD o l p row col=0):RightC o l∧Fit o p∧∃ r c:Nat,row=r∧col=c∧r < p.length∧c < p.length∧r≠c:=by
 unfold zaD at h;by_cases h1:zbc o l=0
 ·rw[if_neg (fun e=>e h1)] at h;by_cases h2:yx o p=0
  ·rw[if_neg (fun e=>e h2)] at h;split at h
   ·cases h
   ·rename_i h3;split at h
    ·cases h
    ·rename_i h4;exact ⟨(zeN hl).1 h1,zam.1 h2,row.toNat,col.toNat,by omega,by omega,by omega,by omega,by omega⟩
  ·rw[if_pos h2] at h;exact absurd h h2
 ·rw[if_pos h1] at h;exact absurd h h1
section
variable {o:List Dim} {l:List Entry} (ok:RightC o l) {p:List Int} (hf:Fit o p) {r c:Nat} (hr:r < p.length) (hc:c < p.length)
include ok hf hr hc
theorem S1377_eq {F:Solver->List Int->Option Cell} {s:Solver} (hF:∀ p,Fit o p->F s p=some (sol o l p)):S1377 F P70 p (r:Int) (c:Int) o s=some (yN o l p r c,.nil):=by
 have hlen:=ok.cube.out.len;have hpl:=hf.len;have hdc:=List.getElem?_eq_getElem (l:=o) (i:=c) (by omega);have hdr:=List.getElem?_eq_getElem (l:=o) (i:=r) (by omega);have hmc:=ok.most _ (List.getElem_mem (l:=o) (n:=c) (by omega));have hmr:=ok.most _ (List.getElem_mem (l:=o) (n:=r) (by omega));have enc:zeJ o c=(o[c]).members.length:=by unfold zeJ;rw[hdc];rfl
 have enr:zeJ o r=(o[r]).members.length:=by unfold zeJ;rw[hdr];rfl
 generalize hdC:o[c]=dc at hdc hmc enc;generalize hdR:o[r]=dr at hdr hmr enr;simp only[S1377,zh,hdc,hdr,zl];have s1:=zJ (B:=zb2 dc) (fun i=>((i:Int),(([]:List Int),qz i,([]:List (List Cell))))) dc.members.length (fun i hi=>by
  have e4:wi ((i:Int)+1)=((i+1:Nat):Int):=by rw[ju (by omega) (by omega)];omega
  have hck:(qz i).length+[(i:Int)].length<=zF:=by rw[qK];simp only[length_singleton];unfold zF;omega
  simp only[zb2];rw[zu,if_pos (by omega)];simp only[zC hck,wn,e4,zd0])
 rw[qY,show ((0:Int),(([]:List Int),([]:List Int),([]:List (List Cell))))=(((0:Nat):Int),(([]:List Int),qz 0,([]:List (List Cell)))) from rfl,s1,qm (y:=((dc.members.length:Int),(([]:List Int),qz dc.members.length,([]:List (List Cell))))) (by simp only[zb2];rw[zu,if_neg (by omega)];rfl)];simp only[ji];have inner:∀ (i:Nat),i < dr.members.length->∀ (g:List Int×List Int×List (List Cell)),lpO (zaP F P70 p (r:Int) (c:Int) s ((i:Int),g) dc) (([]:List Cell),(0:Int))=some (.inl (qi dc.members.length (atG o l p r c i),(dc.members.length:Int))):=by
  intro i hi g;have s2:=zJ (B:=zaP F P70 p (r:Int) (c:Int) s ((i:Int),g) dc) (fun k=>(qi k (atG o l p r c i),(k:Int))) dc.members.length (fun k hk=>by
   have e4:wi ((k:Int)+1)=((k+1:Nat):Int):=by rw[ju (by omega) (by omega)];omega
   have hck:(qi k (atG o l p r c i)).length+[atG o l p r c i k].length<=zF:=by simp only[qi,length_map,List.length_range,length_singleton];unfold zF;omega
   have f1:=zeG hf hdr hi;have f2:=zeG f1 hdc hk;have p1:P70 p (r:Int) (i:Int)=some (p.set r (i:Int)):=ziu p r i hr (by omega);have p2:P70 (p.set r (i:Int)) (c:Int) (k:Int)=some ((p.set r (i:Int)).set c (k:Int)):=ziu _ c k (by rw[List.length_set];exact hc) (by rw[List.length_set];omega);simp only[zaP];rw[zu,if_pos (by omega)];simp only[p1,p2,zl,hF _ f2];rw[show sol o l ((p.set r (i:Int)).set c (k:Int))=atG o l p r c i k from rfl,zC hck];simp only[wn,e4,qi,range_succ,List.map_append,List.map_cons,map_nil])
  rw[show (([]:List Cell),(0:Int))=(qi 0 (atG o l p r c i),((0:Nat):Int)) from rfl,s2,qm (y:=(qi dc.members.length (atG o l p r c i),(dc.members.length:Int))) (by simp only[zaP];rw[zu,if_neg (by omega)];rfl)]
 have s3:=zJ (B:=zb1 F P70 p (r:Int) (c:Int) o s dr) (fun i=>((i:Int),(qz i,qz dc.members.length,(List.range i).map fun i=>qi dc.members.length (atG o l p r c i)))) dr.members.length (fun i hi=>by
  have e4:wi ((i:Int)+1)=((i+1:Nat):Int):=by rw[ju (by omega) (by omega)];omega
  have hck:(qz i).length+[(i:Int)].length<=zF:=by rw[qK];simp only[length_singleton];unfold zF;omega
  have hck2:((List.range i).map fun i=>qi dc.members.length (atG o l p r c i)).length+[qi dc.members.length (atG o l p r c i)].length<=zF:=by simp only[length_map,List.length_range,length_singleton];unfold zF;omega
  simp only[zb1];rw[zu,if_pos (by omega)];simp only[zC hck,zh,hdc,zl];rw[qY,inner i hi];simp only[ji,zC hck2,wn,e4,zd0,range_succ,List.map_append,List.map_cons,map_nil])
 rw[qY,show ((0:Int),(([]:List Int),qz dc.members.length,([]:List (List Cell))))=(((0:Nat):Int),(qz 0,qz dc.members.length,(List.range 0).map fun i=>qi dc.members.length (atG o l p r c i))) from rfl,s3,qm (y:=((dr.members.length:Int),(qz dr.members.length,qz dc.members.length,(List.range dr.members.length).map fun i=>qi dc.members.length (atG o l p r c i)))) (by simp only[zb1];rw[zu,if_neg (by omega)];rfl)];simp only[ji,yN,qp,enc,enr]
end
end
section
open Go Go.RowKit
open Classical in
def P377 (o:List Dim) (l:List Entry) (p:List Int) (row col:Int):Option (Grid×Err) :=
 if Lst Entry.gd l∧p.length<=9223372036854775807 then (if zaD o l p row col=0 then some (yN o l p row.toNat col.toNat,.nil) else some (⟨[],[],[]⟩,zq (zaD o l p row col))) else none
def k377:CSpec:=⟨377,[.st .outl,.sl .entry,.sl .int,.int,.int],.tp [.st .grid,.err],fun x=>P377 x.1 x.2.1 x.2.2.1 x.2.2.2.1 x.2.2.2.2,false,[]⟩
def k350x:CSpec:=⟨350,[.st .outl,.sl .entry],.tp [.bx .solver,.err],fun _=>none,false,[]⟩
def k351x:CSpec:=⟨351,[.bx .solver,.sl .int],.st .cell,fun _=>none,false,[]⟩
def MakeAt (S:Seat):Prop:=∀ g,zV g S.fns=some 377->∃ g349 g58 g350 fn350 fn rest el,zV g349 S.fns=some 349∧zV g58 S.fns=some 58∧S.P.funcs[g350]? = some fn350∧zan S 350 fn350=some tf350.er∧fn350.results=#[.tmp 4,.tmp 5] ∧
 (∀ J,js (zw S J) fn.ntmps rest=some zhC.body.er)∧zb (cRes S.P) fn.results.toList=some zhC.res∧fn.ntmps=136 ∧
 (∀ {u0 l:Value} {pa:Option Addr} {pn pc row col:Nat} {W:World} {R:Ending->World->Prop} {N:World->World->Value->Prop},u0.oneCell'=true->row < pn->col < pn->row≠col->pn<=9223372036854775807 ->
  (∀ X,K0' W X->Calls S.P g349 #[.agg #[u0],l] X fun e Y=>e=.returned .nilIface∧K0' X Y) ->
  (∀ X,K0' W X->Calls S.P g58 #[.agg #[u0],.slice pa pn pc] X fun e Y=>e=.returned .nilIface∧K0' X Y) ->
  (∀ X,K0' W X->W.heap.size+1 < X.heap.size->Calls S.P g350 #[.agg #[u0],l] X fun e Y=>∃ pv,e=.returned (.tuple #[pv,.nilIface])∧K0' X Y∧N X Y pv) ->
  (∀ X Y pv tm,K0' W X->W.heap.size+1 < X.heap.size->K0' X Y->N X Y pv->X.cell? ⟨W.heap.size,0,none⟩=some u0->X.heap[W.heap.size+1]? = some (.cells #[.slice none 0 0,.slice none 0 0,.slice none 0 0] el (0,0))->tm.size=136->tm.getD 2 undef=.slice pa pn pc->tm.getD 3 undef=.int .i64 row ->
   tm.getD 4 undef=.int .i64 col->tm.getD 5 undef=.pointer (some ⟨W.heap.size,0,none⟩)->tm.getD 10 undef=.pointer (some ⟨W.heap.size+1,0,none⟩)->tm.getD 14 undef=pv->rest.wp S.P (bodyPost S.P fn R) { tmps:=tm,defers:=[] } Y) ->
  Calls S.P g #[.agg #[u0],l,.slice pa pn pc,.int .i64 row,.int .i64 col] W R)
theorem arg_sl {S:Seat} {A:Nat->Prop} {w:World} {z:Nat} {es:List (List AV)} {v:Value} (h:VR0 S A w (.sl z es) v):∃ a c,v=.slice a es.length c:=by
 cases h with
 | sl _ _ _ _ _ _=>exact ⟨_,_,rfl⟩
 | slnil=>exact ⟨_,_,rfl⟩
 | slemp=>exact ⟨_,_,rfl⟩
theorem zao {m k:Nat} (h:¬ k=m):Nat.beq m k=false:=by rw[← Bool.not_eq_true];exact fun e=>h (Nat.eq_of_beq_eq_true e).symm
section
variable {S:Seat} (hS:zO S) (hP:Plain S) (h355:Rt S k355) (h40:Rt S k40)
include hS hP h355 h40
theorem r377 (h349:Rt S k349) (h58:Rt S k58) (h70:Rt S k70) (hJ:∀ J,JOk J->JKnows S J) (h70J:∀ J,Rt (zw S J) k70) (hok:Ok1 S 377 tf377) (hat:MakeAt S):Rt S k377:=fun (x:List Dim×List Entry×List Int×Int×Int) (y:Grid×Err) hy=>by
 obtain ⟨o,l,p,row,col⟩:=x;have hy2:P377 o l p row col=some y:=hy;clear hy;unfold P377 at hy2;split at hy2
 case isFalse=>cases hy2
 rename_i hlp;obtain ⟨hl,hp⟩:=hlp;by_cases hz:zaD o l p row col=0
 ·rw[if_pos hz] at hy2;obtain rfl:=Option.some.inj hy2;obtain ⟨ok,hf,r,c,rfl,rfl,hr,hc,hrc⟩:=make_ok hl hz;simp only[Int.toNat_natCast];have hn:P349 o l=some .nil:=by rw[zbm hl,(zeN hl).2 ok];rfl
  have hn2:P58 o p=some .nil:=by rw[zdd o p hp,zam.2 hf];rfl
  intro g hg;obtain ⟨g349,g58,g350,fn350,fn,rest,el,hg349,hg58,hg350,hc350,hres350,hcode,hres,hnt,walk⟩:=hat g hg;have ar:(za S).ret 349 [.agg [.sl 3 (o.map Dim.cs)],.sl 2 (l.map Entry.cs)] (Err.av .nil) []:=h349 (o,l) .nil hn;have ar2:(za S).ret 58 [.agg [.sl 3 (o.map Dim.cs)],.sl 1 (p.map fun n=>[aI n])] (Err.av .nil) []:=h58 (o,p) .nil hn2;show yT S g [.agg [.sl 3 (o.map Dim.cs)],.sl 2 (l.map Entry.cs),.sl 1 (p.map fun n=>[aI n]),.v (.int .i64 (r:Int)),.v (.int .i64 (c:Int))] (encA (.tp [.st .grid,.err]) (yN o l p r c,Err.nil)) [];refine jM (fun A w vs hvl hA hJR ha => ?_) (by simp[zp]);obtain ⟨v0,v1,v2,v3,v4,rfl⟩:∃ x0 x1 x2 x3 x4,vs=#[x0,x1,x2,x3,x4]:=by
   obtain ⟨r⟩:=vs
   match r,hvl with
   | [x0,x1,x2,x3,x4],_=>exact ⟨x0,x1,x2,x3,x4,rfl⟩
  obtain ⟨u0,rfl,a0,one⟩:=arg_o (show VR0 S A w (.agg [.sl 3 (o.map Dim.cs)]) v0 from ha 0 _ rfl);have a1:VR0 S A w (.sl 2 (l.map Entry.cs)) v1:=ha 1 _ rfl;have a2:VR0 S A w (.sl 1 (p.map fun n=>[aI n])) v2:=ha 2 _ rfl;obtain rfl:v3=.int .i64 (r:Int):=VR.v_inv (σ:=fun _=>none) (.of0 (ha 3 _ rfl));obtain rfl:v4=.int .i64 (c:Int):=VR.v_inv (σ:=fun _=>none) (.of0 (ha 4 _ rfl));obtain ⟨pa,pc,rfl⟩:=arg_sl a2;rw[length_map] at a2 ha ⊢;have use:=fun (X:World) (hX:KeepO (fun _=>False) w X)=>zat hP hg349 ar (by simp[zp]) (A:=A) (w:=w) (X:=X) (vs:=#[.agg #[u0],v1]) rfl hA hX fun i x hx=>by
   match i,hx with
   | 0,hx=>exact ha 0 x hx
   | 1,hx=>exact ha 1 x hx
   | i+2,hx=>simp at hx
  have use2:=fun (X:World) (hX:KeepO (fun _=>False) w X)=>zat hP hg58 ar2 (by simp[zp]) (A:=A) (w:=w) (X:=X) (vs:=#[.agg #[u0],.slice pa p.length pc]) rfl hA hX fun i x hx=>by
   match i,hx with
   | 0,hx=>exact ha 0 x hx
   | 1,hx=>exact ha 2 x hx
   | i+2,hx=>simp at hx
  have fin:∀ {Z:World},KeepO (fun _=>False) w Z->KeepO S.jg w Z∧S.jn Z:=fun h=>⟨⟨h.os,h.tape,h.output,h.size,fun b hb _=>h.block b hb fun e=>e⟩,hP.n _⟩;refine walk (N:=fun X Y pv=>∃ kb cb kc cc A',kb≠cb∧Inv S X∧NewIs S (fun b=>A b∨b=w.heap.size) X Y pv (JS o l kb cb kc cc).s A' (List.replicate (sizeN o) false) (List.replicate (sizeN o) ⟨0,0⟩)) one hr hc hrc hp (fun X hX=>(use X hX).mono ?_) (fun X hX=>(use2 X hX).mono ?_) (fun X hX hlt => ?_) ?_
  ·rintro e Y ⟨v,rfl,hk,hr⟩;exact ⟨by rw[za8 (zac hr)],hk⟩
  ·rintro e Y ⟨v,rfl,hk,hr⟩;exact ⟨by rw[za8 (zac hr)],hk⟩
  ·exact zfL hS hP h355 h40 ok hg350 hc350 hres350 hA a0 a1 hX (fun b hb=>.inl hb) fun b hb=>by
    rcases hb with hb | rfl
    ·exact Nat.lt_of_lt_of_le (hA.1 b hb) hX.size
    ·omega
  ·rintro X Y pv tm hX hlt hXY ⟨kb,cb,kc,cc,A',hne,hi,hnew⟩ hc0 hd1 hsz t2 t3 t4 t5 t10 t14;have jk:=hJ (JS o l kb cb kc cc) (jok ok hne);obtain ⟨jr,jA,jI⟩:=hnew.jr (J:=JS o l kb cb kc cc) rfl (by simp[JS]) hi hXY;have hwY:=hX.trans hXY;have hsX:=hX.size;have bk1:X.heap.size<=kb:=hnew.bk.1;have bc1:X.heap.size<=cb:=hnew.bc.1;have hsub:∀ x,A' x->A x∨w.heap.size<=x:=fun x hx=>by
    rcases (hnew.lt x hx).2 with (h | rfl) | h
    ·exact .inl h
    ·exact .inr (Nat.le_refl _)
    ·exact .inr (Nat.le_trans hX.size h)
   have hb10:¬ A' (w.heap.size+1):=fun h=>by
    rcases (hnew.lt _ h).2 with (h | h) | h
    ·have:=hA.1 _ h;omega
    ·omega
    ·omega
   have hjg:∀ b,(zw S (JS o l kb cb kc cc)).jg b->b=kb∨b=cb:=fun b hb=>hb;have jr2:JR (zw S (JS o l kb cb kc cc)) A' (fun x=>x=w.heap.size+1) Y:=⟨jr.jn,jr.lt,jr.na,fun b hb e=>by
    have e:b=w.heap.size+1:=e;rcases hjg b hb with h | h<;>omega,jr.ng⟩
   have hrun:zhC.runFrom [k351w (JS o l kb cb kc cc),k70] { fr:=[(10,.pv 10 0),(2,enc (.sl .int) p),(3,enc .int (r:Int)),(4,enc .int (c:Int)),(5,enc (.bx .outl) o),(14,enc (.bx .solver) (JS o l kb cb kc cc).s)],hp:=[(10,.var [.nl,.nl,.nl])],ctr:=1 } (.tp [.st .grid,.err])=some (yN o l p r c,Err.nil) :=
    (s1377 (zjf (JS o l kb cb kc cc)) P70 p (r:Int) (c:Int) o (JS o l kb cb kc cc).s).trans (S1377_eq ok hf hr hc fun q hq=>ziw ok hq)
   have hbY:Y.heap[w.heap.size+1]? = some (.cells #[.slice none 0 0,.slice none 0 0,.slice none 0 0] el (0,0)):=(hXY.block _ hlt fun e=>e).trans hd1;have hst:SRel (zw S (JS o l kb cb kc cc)) A' ⟨fun x=>x=w.heap.size+1,fun _=>none⟩ Y A' (fun s=>if s=10 then some (w.heap.size+1) else none) Y (TSt.toA { fr:=[(10,.pv 10 0),(2,enc (.sl .int) p),(3,enc .int (r:Int)),(4,enc .int (c:Int)),(5,enc (.bx .outl) o),(14,enc (.bx .solver) (JS o l kb cb kc cc).s)],hp:=[(10,.var [.nl,.nl,.nl])],ctr:=1 }) tm:=by
    refine SRel.startV (cs:=[.v (.slice none 0 0),.v (.slice none 0 0),.v (.slice none 0 0)]) (fun s => ?_) hbY (by simp) (fun i x hx => ?_) (by simp[AV.refs,AV.refsL]) hb10 (fun q hq e => ?_) ⟨jA,jI⟩ fun k => ?_
    ·by_cases h:s=10
     ·subst h;rfl
     ·rw[if_neg h];simp only[TSt.toA,look,zao h];rfl
    ·match i,hx with
     | 0,hx=>cases hx;exact .v _
     | 1,hx=>cases hx;exact .v _
     | 2,hx=>cases hx;exact .v _
     | i+3,hx=>simp at hx
    ·have:=hA.2.lt q hq;omega
    ·by_cases k10:k=10
     ·subst k10;exact .inr ⟨rfl,t10⟩
     refine .inl ?_;by_cases k2:k=2
     ·subst k2;rw[t2];show VR0 _ A' Y (.sl 1 (p.map fun n=>[aI n])) _;exact (a2.mono (fun b hb=>hnew.sub b (.inl hb)) fun b hb=>hwY.block b (hA.1 b hb) fun e=>e).toJ
     by_cases k3:k=3
     ·subst k3;rw[t3];exact .v _
     by_cases k4:k=4
     ·subst k4;rw[t4];exact .v _
     by_cases k5:k=5
     ·subst k5;rw[t5];show VR0 _ A' Y (.ep [.sl 3 (o.map Dim.cs)] 0) _;refine .ep (b:=w.heap.size) (o:=0) (u:=fun _=>u0) (hnew.sub _ (.inr rfl)) (fun j hj => ?_) fun j x hx => ?_
      ·obtain rfl:j=0:=by simp at hj;omega
       exact (World.cell?_of_block (a:=⟨w.heap.size,0,none⟩) (hXY.block _ (by show w.heap.size < _;omega) fun e=>e)).trans hc0
      ·match j,hx with
       | 0,hx =>cases hx;exact (a0.mono (fun b hb=>hnew.sub b (.inl hb)) fun b hb=>hwY.block b (hA.1 b hb) fun e=>e).toJ
       | j+1,hx=>simp at hx
     by_cases k14:k=14
     ·subst k14;rw[t14];exact hnew.rel.toJ
     simp only[TSt.toA,look,zao k10,zao k2,zao k3,zao k4,zao k5,zao k14];exact .bot _
   refine wp_mono (zgO (S:=zw S (JS o l kb cb kc cc)) (C:=[k351w (JS o l kb cb kc cc),k70]) hS (.cons jk.at_ (.cons (h70J _) .nil)) (hcode _) hres rfl rfl hrun (W:=w) (by rw[hsz,hnt]) (Nat.le_succ _) hwY.size jr2 hst) fun ex a Z h=>h.body fun v hk hj hr => ?_;have hZ:KeepO (fun _=>False) w Z:=⟨hk.os.trans hwY.os,hk.tape.trans hwY.tape,hk.output.trans hwY.output,Nat.le_trans hwY.size hk.size,fun b hb _=>(hk.block b (Nat.lt_of_lt_of_le hb hwY.size) fun e=>by
    rcases e with e | e
    ·omega
    ·rcases hjg b e with h | h<;>omega).trans (hwY.block b hb fun e=>e)⟩
   exact ⟨v,rfl,(fin hZ).1,(fin hZ).2,ret_end hr hsub (Nat.le_refl _)⟩
 ·rw[if_neg hz] at hy2;obtain rfl:=Option.some.inj hy2;exact Ok1.sound hok (C:=[k349,k350x,k351x,k58,k70]) (.cons h349 (.cons (fun _ _ h=>by cases h) (.cons (fun _ _ h=>by cases h) (.cons h58 (.cons h70 .nil))))) rfl rfl rfl ((s377 P349 (fun _ _=>none) (fun _ _=>none) P58 P70 o l p row col).trans (S377_err hl hp hz)) rfl
end
end
end Ab
