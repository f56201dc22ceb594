import Derived.Test.YtckaniphjiniiaaGreatDoorH7
set_option linter.all false
noncomputable section
namespace Ab
open Go
section
set_option maxRecDepth 100000
section
variable (F349:LD->LY->(Option Err)) (F350:LD->LY->(Option (Solver×Err))) (F351:Solver->LI->(Option Cell)) (F58:LD->LI->(Option Err)) (F70:LI->Int->Int->(Option LI))
def tc377:TCode:=.seq (rg [oq 5 (.box 0),oq 10 (.alloc [.slice none 0 0,.slice none 0 0,.slice none 0 0]),om 11 cz]) (.seq (.seq (rg [oq 21 (.load (some 1) 5),om 22 1,oq 23 (Cl 349 [21,22]),om 12 23]) (.seq (rg [om 24 12,oq 25 (.eqn false true 24)]) (.cond 25 (.seq (rg [oq 26 (.build [.slice none 0 0,.slice none 0 0,.slice none 0 0] []),om 27 12,on (.store 3 10 26),om 11 27]) .ret) .skip))) (.seq (.seq (rg [oq 28 (.load (some 1) 5),om 29 2,oq 30 (Cl 58 [28,29]),om 13 30]) (.seq (rg [om 31 13,oq 32 (.eqn false true 31)]) (.cond 32 (.seq (rg [oq 33 (.build [.slice none 0 0,.slice none 0 0,.slice none 0 0] []),om 34 13,on (.store 3 10 33),om 11 34]) .ret) .skip))) (.seq (.block 0 (.seq (.regionJ ⟨[.slot 35 .bool],[36,37,38,39,40,41,42,43,44,45,46,47,48,49,50,51,52,53],[],[]⟩ [om 36 3,oq 37 (Bi .lss 36 (ci 0)),om 38 37,og 39 (.mov 3) 38 false [],og 40 (.mov 2) 38 false [],og 41 (Ln 40) 38 false [],og 42 (Bi .geq 39 41) 38 false [],oq 43 (.pick 38 (cb true) 42),om 44 43,og 45 (.mov 4) 44 false [],og 46 (Bi .lss 45 (ci 0)) 44 false [],oq 47 (.pick 44 (cb true) 46),om 48 47,og 49 (.mov 4) 48 false [],og 50 (.mov 2) 48 false [],og 51 (Ln 50) 48 false [],og 52 (Bi .geq 49 51) 48 false [],oq 53 (.pick 48 (cb true) 52),om 35 53] [] false) (.cond 35 (.seq (rg [oq 54 (.build [.slice none 0 0,.slice none 0 0,.slice none 0 0] []),oq 55 (.ifc 1 (ci 1)),on (.store 3 10 54),om 11 55]) .ret) (.seq (rg [om 57 3,om 58 4,oq 59 (Bi .eql 57 58),om 56 59]) (.cond 56 (.seq (rg [oq 60 (.build [.slice none 0 0,.slice none 0 0,.slice none 0 0] []),oq 61 (.ifc 1 (ci 3)),on (.store 3 10 60),om 11 61]) .ret) .skip))))) (.seq (rg [oq 63 (.load (some 1) 5),om 64 1,oq 65 (.call true [] 350 [63,64]),om 62 65,oq 66 (.ext 62 0),oq 67 (.ext 62 1),om 14 66,om 15 67]) (.seq (.seq (rg [om 68 15,oq 69 (.eqn false true 68)]) (.cond 69 (.seq (rg [oq 70 (.build [.slice none 0 0,.slice none 0 0,.slice none 0 0] []),om 71 15,on (.store 3 10 70),om 11 71]) .ret) .skip)) (.seq (rg [oq 16 (.alloc [.slice none 0 0,.slice none 0 0,.slice none 0 0])]) (.seq (.seq (rg [oq 72 (.fa 0 5),oq 73 (Ld 72),om 74 4,oq 75 (.ia 3 73 74),oq 76 (.fa 2 75),oq 77 (Ld 76),oq 78 (Ln 77),om 79 (ci 0)]) (.loop ⟨[.slot 79 .int,.var 16 [.row 103 .int,.row 86 .int,.row 132 (.sl .cell)]],[17,80,81,82,83,84,85,86,87,88],[85],[]⟩ 1 (.seq (rg [oq 80 (Bi .lss 79 78)]) (.seq (.cond 80 .skip (.exit 1)) (.seq (.block 2 (.seq (rg [om 81 79,om 17 81]) (rg [oq 82 (.fa 1 16),oq 83 (Ld 82),om 84 17,oq 85 (.bslice false 1 [.int .i64 0] 1 [(0,84)]),oq 86 (.app 1 83 85),oq 87 (.fa 1 16),on (.store 1 87 86)]))) (rg [oq 88 (Bi .add 79 (ci 1)),om 79 88])))))) (.seq (.seq (rg [oq 89 (.fa 0 5),oq 90 (Ld 89),om 91 3,oq 92 (.ia 3 90 91),oq 93 (.fa 2 92),oq 94 (Ld 93),oq 95 (Ln 94),om 96 (ci 0)]) (.loop ⟨[.slot 96 .int,.var 16 [.row 103 .int,.row 86 .int,.row 132 (.sl .cell)]],[18,19,20,97,98,99,100,101,102,103,104,105,106,107,108,109,110,111,112,113,114,115,116,117,118,119,120,121,122,123,124,125,126,127,128,129,130,131,132,133,134],[102,125,126,131],[]⟩ 3 (.seq (rg [oq 97 (Bi .lss 96 95)]) (.seq (.cond 97 .skip (.exit 3)) (.seq (.block 4 (.seq (rg [om 98 96,om 18 98]) (.seq (rg [oq 99 (.fa 0 16),oq 100 (Ld 99),om 101 18,oq 102 (.bslice false 1 [.int .i64 0] 1 [(0,101)]),oq 103 (.app 1 100 102),oq 104 (.fa 0 16),on (.store 1 104 103)]) (.seq (rg [om 19 cn]) (.seq (.seq (rg [oq 105 (.fa 0 5),oq 106 (Ld 105),om 107 4,oq 108 (.ia 3 106 107),oq 109 (.fa 2 108),oq 110 (Ld 109),oq 111 (Ln 110),om 112 (ci 0)]) (.loop ⟨[.row 19 126 .cell,.slot 112 .int],[20,113,114,115,116,117,118,119,120,121,122,123,124,125,126,127],[125],[]⟩ 5 (.seq (rg [oq 113 (Bi .lss 112 111)]) (.seq (.cond 113 .skip (.exit 5)) (.seq (.block 6 (.seq (rg [om 114 112,om 20 114]) (.region [om 115 19,om 116 14,om 117 2,om 118 3,om 119 18,oq 120 (.call true [] 70 [117,118,119]),om 121 4,om 122 20,oq 123 (.call true [] 70 [120,121,122]),oq 124 (Cl 351 [116,123]),oq 125 (.bslice false 2 [.int .i64 0,.int .i64 0] 1 [(0,124)]),oq 126 (.app 2 115 125),om 19 126] [.int,.int,.int,.int,.int,.int,.int,.int,.int,.int,.cell,.cell] false))) (rg [oq 127 (Bi .add 112 (ci 1)),om 112 127])))))) (.region [oq 128 (.fa 2 16),oq 129 (Ld 128),om 130 19,oq 131 (.bslice true 1 [.slice none 0 0] 1 [(0,130)]),oq 132 (.app 1 129 131),oq 133 (.fa 2 16),on (.store 1 133 132)] [.int,.int,.int,(.sl .cell),(.sl .cell)] false)))))) (rg [oq 134 (Bi .add 96 (ci 1)),om 96 134])))))) (.seq (rg [oq 135 (.load (some 3) 16),on (.store 3 10 135),om 11 cz]) .ret))))))))) 
def tf377:TFunc:=⟨5,136,[.cell 10 (some 3),.tmp 11],false,tc377,[]⟩
def S377_L1 (y5:Dim) (x6:(Int×(LI×LI×(List LC)))):Option (LR (Int×(LI×LI×(List LC))) (Grid×Err)) :=
 br (decide (x6.1<((Dim.members y5).length:Int)))
 (ck (decide (List.length x6.2.2.1+List.length ([x6.1]:List Int)<=zC)) <|
 nxO (some (wi (x6.1+(1:Int)),(x6.2.1,x6.2.2.1++([x6.1]:List Int),x6.2.2.2))))
 (dnO (some (x6.1,(x6.2.1,x6.2.2.1,x6.2.2.2))))
def S377_L2 (a2:LI) (a3:Int) (a4:Int) (y4:(Solver×Err)) (x9:(Int×(LI×LI×(List LC)))) (db:Dim) (bY:(LC×Int)):Option (LR (LC×Int) (LR (Int×(LI×LI×(List LC))) (Grid×Err))) :=
 br (decide (bY.2<((Dim.members db).length:Int)))
 (bno (F70 a2 a3 x9.1) fun fY =>
 bno (F70 fY a4 bY.2) fun cj =>
 bno (F351 y4.1 cj) fun cM =>
 ck (decide (List.length bY.1+List.length ([cM]:List Cell)<=zC)) <|
 nxO (some (bY.1++([cM]:List Cell),wi (bY.2+(1:Int)))))
 (dnO (some (bY.1,bY.2)))
def S377_L3 (a0:LD) (a2:LI) (a3:Int) (a4:Int) (y4:(Solver×Err)) (y8:Dim) (x9:(Int×(LI×LI×(List LC)))):Option (LR (Int×(LI×LI×(List LC))) (Grid×Err)) :=
 br (decide (x9.1<((Dim.members y8).length:Int)))
 (ck (decide (List.length x9.2.1+List.length ([x9.1]:List Int)<=zC)) <|
 bno (zu a0 a4) fun db =>
 lp (S377_L2 F351 F70 a2 a3 a4 y4 x9 db) (([]:List Cell),(0:Int)) fun iC =>
 ck (decide (List.length x9.2.2.2+List.length ([iC.1]:List (List Cell))<=zC)) <|
 nxO (some (wi (x9.1+(1:Int)),(x9.2.1++([x9.1]:List Int),x9.2.2.1,x9.2.2.2++([iC.1]:List (List Cell))))))
 (dnO (some (x9.1,(x9.2.1,x9.2.2.1,x9.2.2.2))))
def S377 (a0:LD) (a1:LY) (a2:LI) (a3:Int) (a4:Int):Option (Grid×Err) :=
 bno (F349 a0 a1) fun y1 =>
 br (!(Err.isNil y1))
 (some (Grid.mk ([]:List Int) ([]:List Int) ([]:List (List Cell)),y1))
 (bno (F58 a0 a2) fun y2 =>
 br (!(Err.isNil y2))
 (some (Grid.mk ([]:List Int) ([]:List Int) ([]:List (List Cell)),y2))
 (jn (σ:=Bool) (α:=(Grid×Err)) (br (decide (a3<(0:Int)))
 (zt (some true))
 (br (decide ((a2.length:Int)<=a3))
 (zt (some true))
 (br (decide (a4<(0:Int)))
 (zt (some true))
 (zt (some (decide ((a2.length:Int)<=a4))))))) fun x3 =>
 br x3
 (some (Grid.mk ([]:List Int) ([]:List Int) ([]:List (List Cell)),Err.no (1:Int)))
 (br (decide (a3=a4))
 (some (Grid.mk ([]:List Int) ([]:List Int) ([]:List (List Cell)),Err.no (3:Int)))
 (bno (F350 a0 a1) fun y4 =>
 br (!(Err.isNil y4.2))
 (some (Grid.mk ([]:List Int) ([]:List Int) ([]:List (List Cell)),y4.2))
 (bno (zu a0 a4) fun y5 =>
 lp (S377_L1 y5) ((0:Int),(([]:List Int),([]:List Int),([]:List (List Cell)))) fun x7 =>
 bno (zu a0 a3) fun y8 =>
 lp (S377_L3 F351 F70 a0 a2 a3 a4 y4 y8) ((0:Int),(x7.2.1,x7.2.2.1,x7.2.2.2)) fun dk =>
 some (Grid.mk dk.2.1 dk.2.2.1 dk.2.2.2,Err.nil))))))
def s377 (a0:(List Dim)) (a1:(List Entry)) (a2:(List Int)) (a3:Int) (a4:Int):tf377.run [⟨349,[(.st .outl),(.sl .entry)],.err,fun x=>F349 x.1 x.2,false,[]⟩,
 ⟨350,[(.st .outl),(.sl .entry)],(.tp [(.bx .solver),.err]),fun x=>F350 x.1 x.2,false,[]⟩,
 ⟨351,[(.bx .solver),(.sl .int)],(.st .cell),fun x=>F351 x.1 x.2,false,[]⟩,
 ⟨58,[(.st .outl),(.sl .int)],.err,fun x=>F58 x.1 x.2,false,[]⟩,
 ⟨70,[(.sl .int),.int,.int],(.sl .int),fun x=>F70 x.1 x.2.1 x.2.2,false,[]⟩] [(.st .outl),(.sl .entry),(.sl .int),.int,.int] (.tp [(.st .grid),.err]) (a0,a1,a2,a3,a4)=S377 F349 F350 F351 F58 F70 a0 a1 a2 a3 a4:=by kernel_rfl
end
end
section
set_option maxRecDepth 100000
section
variable (F351:Solver->LI->(Option Cell)) (F70:LI->Int->Int->(Option LI))
def tc1377:TCode:=.seq (rg [oq 16 (.alloc [.slice none 0 0,.slice none 0 0,.slice none 0 0])]) (.seq (.seq (rg [oq 72 (.fa 0 5),oq 73 (Ld 72),om 74 4,oq 75 (.ia 3 73 74),oq 76 (.fa 2 75),oq 77 (Ld 76),oq 78 (Ln 77),om 79 (ci 0)]) (.loop ⟨[.slot 79 .int,.var 16 [.row 103 .int,.row 86 .int,.row 132 (.sl .cell)]],[17,80,81,82,83,84,85,86,87,88],[85],[]⟩ 1 (.seq (rg [oq 80 (Bi .lss 79 78)]) (.seq (.cond 80 .skip (.exit 1)) (.seq (.block 2 (.seq (rg [om 81 79,om 17 81]) (rg [oq 82 (.fa 1 16),oq 83 (Ld 82),om 84 17,oq 85 (.bslice false 1 [.int .i64 0] 1 [(0,84)]),oq 86 (.app 1 83 85),oq 87 (.fa 1 16),on (.store 1 87 86)]))) (rg [oq 88 (Bi .add 79 (ci 1)),om 79 88])))))) (.seq (.seq (rg [oq 89 (.fa 0 5),oq 90 (Ld 89),om 91 3,oq 92 (.ia 3 90 91),oq 93 (.fa 2 92),oq 94 (Ld 93),oq 95 (Ln 94),om 96 (ci 0)]) (.loop ⟨[.slot 96 .int,.var 16 [.row 103 .int,.row 86 .int,.row 132 (.sl .cell)]],[18,19,20,97,98,99,100,101,102,103,104,105,106,107,108,109,110,111,112,113,114,115,116,117,118,119,120,121,122,123,124,125,126,127,128,129,130,131,132,133,134],[102,125,126,131],[]⟩ 3 (.seq (rg [oq 97 (Bi .lss 96 95)]) (.seq (.cond 97 .skip (.exit 3)) (.seq (.block 4 (.seq (rg [om 98 96,om 18 98]) (.seq (rg [oq 99 (.fa 0 16),oq 100 (Ld 99),om 101 18,oq 102 (.bslice false 1 [.int .i64 0] 1 [(0,101)]),oq 103 (.app 1 100 102),oq 104 (.fa 0 16),on (.store 1 104 103)]) (.seq (rg [om 19 cn]) (.seq (.seq (rg [oq 105 (.fa 0 5),oq 106 (Ld 105),om 107 4,oq 108 (.ia 3 106 107),oq 109 (.fa 2 108),oq 110 (Ld 109),oq 111 (Ln 110),om 112 (ci 0)]) (.loop ⟨[.row 19 126 .cell,.slot 112 .int],[20,113,114,115,116,117,118,119,120,121,122,123,124,125,126,127],[125],[]⟩ 5 (.seq (rg [oq 113 (Bi .lss 112 111)]) (.seq (.cond 113 .skip (.exit 5)) (.seq (.block 6 (.seq (rg [om 114 112,om 20 114]) (.region [om 115 19,om 116 14,om 117 2,om 118 3,om 119 18,oq 120 (.call true [] 70 [117,118,119]),om 121 4,om 122 20,oq 123 (.call true [] 70 [120,121,122]),oq 124 (Cl 351 [116,123]),oq 125 (.bslice false 2 [.int .i64 0,.int .i64 0] 1 [(0,124)]),oq 126 (.app 2 115 125),om 19 126] [.int,.int,.int,.int,.int,.int,.int,.int,.int,.int,.cell,.cell] false))) (rg [oq 127 (Bi .add 112 (ci 1)),om 112 127])))))) (.region [oq 128 (.fa 2 16),oq 129 (Ld 128),om 130 19,oq 131 (.bslice true 1 [.slice none 0 0] 1 [(0,130)]),oq 132 (.app 1 129 131),oq 133 (.fa 2 16),on (.store 1 133 132)] [.int,.int,.int,(.sl .cell),(.sl .cell)] false)))))) (rg [oq 134 (Bi .add 96 (ci 1)),om 96 134])))))) (.seq (rg [oq 135 (.load (some 3) 16),on (.store 3 10 135),om 11 cz]) .ret))) 
def zkO:TFunc:=⟨0,136,[.cell 10 (some 3),.tmp 11],false,tc1377,[]⟩
def zdW (y1:Dim) (x2:(Int×(LI×LI×(List LC)))):Option (LR (Int×(LI×LI×(List LC))) (Grid×Err)) :=
 br (decide (x2.1<((Dim.members y1).length:Int)))
 (ck (decide (List.length x2.2.2.1+List.length ([x2.1]:List Int)<=zC)) <|
 nxO (some (wi (x2.1+(1:Int)),(x2.2.1,x2.2.2.1++([x2.1]:List Int),x2.2.2.2))))
 (dnO (some (x2.1,(x2.2.1,x2.2.2.1,x2.2.2.2))))
def zcf (a0:LI) (a1:Int) (a2:Int) (a4:Solver) (x5:(Int×(LI×LI×(List LC)))) (y6:Dim) (x7:(LC×Int)):Option (LR (LC×Int) (LR (Int×(LI×LI×(List LC))) (Grid×Err))) :=
 br (decide (x7.2<((Dim.members y6).length:Int)))
 (bno (F70 a0 a1 x5.1) fun y8 =>
 bno (F70 y8 a2 x7.2) fun y9 =>
 bno (F351 a4 y9) fun db =>
 ck (decide (List.length x7.1+List.length ([db]:List Cell)<=zC)) <|
 nxO (some (x7.1++([db]:List Cell),wi (x7.2+(1:Int)))))
 (dnO (some (x7.1,x7.2)))
def zdV (a0:LI) (a1:Int) (a2:Int) (a3:LD) (a4:Solver) (y4:Dim) (x5:(Int×(LI×LI×(List LC)))):Option (LR (Int×(LI×LI×(List LC))) (Grid×Err)) :=
 br (decide (x5.1<((Dim.members y4).length:Int)))
 (ck (decide (List.length x5.2.1+List.length ([x5.1]:List Int)<=zC)) <|
 bno (zu a3 a2) fun y6 =>
 lp (zcf F351 F70 a0 a1 a2 a4 x5 y6) (([]:List Cell),(0:Int)) fun bY =>
 ck (decide (List.length x5.2.2.2+List.length ([bY.1]:List (List Cell))<=zC)) <|
 nxO (some (wi (x5.1+(1:Int)),(x5.2.1++([x5.1]:List Int),x5.2.2.1,x5.2.2.2++([bY.1]:List (List Cell))))))
 (dnO (some (x5.1,(x5.2.1,x5.2.2.1,x5.2.2.2))))
def S1377 (a0:LI) (a1:Int) (a2:Int) (a3:LD) (a4:Solver):Option (Grid×Err) :=
 bno (zu a3 a2) fun y1 =>
 lp (zdW y1) ((0:Int),(([]:List Int),([]:List Int),([]:List (List Cell)))) fun x3 =>
 bno (zu a3 a1) fun y4 =>
 lp (zdV F351 F70 a0 a1 a2 a3 a4 y4) ((0:Int),(x3.2.1,x3.2.2.1,x3.2.2.2)) fun bC =>
 some (Grid.mk bC.2.1 bC.2.2.1 bC.2.2.2,Err.nil)
def s1377 (a0:(List Int)) (a1:Int) (a2:Int) (a3:(List Dim)) (a4:Solver):zkO.runFrom [⟨351,[(.bx .solver),(.sl .int)],(.st .cell),fun x=>F351 x.1 x.2,false,[]⟩,
 ⟨70,[(.sl .int),.int,.int],(.sl .int),fun x=>F70 x.1 x.2.1 x.2.2,false,[]⟩] { fr:=[(10,.pv 10 0),(2,enc (.sl .int) a0),(3,enc .int a1),(4,enc .int a2),(5,enc (.bx .outl) a3),(14,enc (.bx .solver) a4)],hp:=[(10,.var [.nl,.nl,.nl])],ctr:=1 } (.tp [(.st .grid),.err])=S1377 F351 F70 a0 a1 a2 a3 a4:=by kernel_rfl
end
end
section
def zmB (o:List Dim) (i:Nat):Nat:=((o[i]?).map fun d=>d.members.length).getD 0
def zam (n:Nat):List Int:=(List.range n).map fun (k:Nat)=>(k:Int)
def wx (n:Nat) (f:Nat->Cell):List Cell:=(List.range n).map f
def gridF (nr nc:Nat) (f:Nat->Nat->Cell):Grid:=⟨zam nr,zam nc,(List.range nr).map fun i=>wx nc (f i)⟩
def atG (o:List Dim) (l:List Entry) (p:List Int) (r c:Nat) (i k:Nat):Cell:=sol o l ((p.set r (i:Int)).set c (k:Int))
def zeC (o:List Dim) (l:List Entry) (p:List Int) (r c:Nat):Grid:=gridF (zmB o r) (zmB o c) (atG o l p r c)
def zbY (o:List Dim) (l:List Entry) (p:List Int) (row col:Int):Int :=
 if ¬jj o l=0 then jj o l else if ¬jv o p=0 then jv o p else if row<0∨((p.length:Nat):Int)<=row∨col<0∨((p.length:Nat):Int)<=col then 1 else if row=col then 3 else 0
def zgg (i:Nat):zam i++[(i:Int)]=zam (i+1):=by simp[zam,Cb]
def zjb (i:Nat):(zam i).length=i:=by simp[zam]
def S377_err {o:List Dim} {l:List Entry} (hl:Lst Entry.gd l) {p:List Int} (hp:p.length<=9223372036854775807) {row col:Int} (h:zbY o l p row col≠0) :
  S377 P349 (fun _ _=>none) (fun _ _=>none) P58 P70 o l p row col=some (⟨[],[],[]⟩,zn (zbY o l p row col)):=by
 simp only[S377,zbD hl,zjo o p hp,zj,zB];unfold zbY at h ⊢;by_cases h1:jj o l=0
 ·rw[if_neg (fun e=>e h1)] at h ⊢;simp only[h1,decide_true,AW,za];by_cases h2:jv o p=0
  ·rw[if_neg (fun e=>e h2)] at h ⊢;simp only[h2,decide_true,AW,za];by_cases h3:row<0∨((p.length:Nat):Int)<=row∨col<0∨((p.length:Nat):Int)<=col
   ·rw[if_pos h3];have:(br (decide (row<(0:Int))) (zt (α:=Grid×Err) (some true)) (br (decide (((List.length p:Nat):Int)<=row)) (zt (some true)) (br (decide (col<(0:Int))) (zt (some true)) (zt (some (decide (((List.length p:Nat):Int)<=col)))))))=some (.inl true):=by
     simp only[zJ,zx];split
     ·rfl
     ·split
      ·rfl
      ·split
       ·rfl
       ·rw[decide_eq_true (by omega)]
    rw[this];rfl
   ·rw[if_neg h3] at h ⊢;have e1:¬row<0:=fun e=>h3 (.inl e);have e2:¬((p.length:Nat):Int)<=row:=fun e=>h3 (.inr (.inl e));have e3:¬col<0:=fun e=>h3 (.inr (.inr (.inl e)));have e4:¬((p.length:Nat):Int)<=col:=fun e=>h3 (.inr (.inr (.inr e)));by_cases h4:row=col
    ·rw[if_pos h4];simp only[decide_eq_false e1,decide_eq_false e2,decide_eq_false e3,decide_eq_false e4,za,zx,zY,decide_eq_true h4,ze];rfl
    ·rw[if_neg h4] at h;exact absurd rfl h
  ·rw[if_pos h2];simp only[decide_eq_false h2,BN,ze]
 ·rw[if_pos h1];simp only[decide_eq_false h1,BN,ze]
def make_ok {o:List Dim} {l:List Entry} (hl:Lst Entry.gd l) {p:List Int} {row col:Int} (h:zbY o l p row col=0):RightC o l∧Fit o p∧∃r c:Nat,row=r∧col=c∧r<p.length∧c<p.length∧r≠c:=by
 unfold zbY at h;by_cases h1:jj o l=0
 ·rw[if_neg (fun e=>e h1)] at h;by_cases h2:jv o p=0
  ·rw[if_neg (fun e=>e h2)] at h;split at h
   ·cases h
   ·rename_i h3;split at h
    ·cases h
    ·rename_i h4;exact⟨(zhl hl).1 h1,jB.1 h2,row.toNat,col.toNat,by omega,by omega,by omega,by omega,by omega⟩
  ·rw[if_pos h2] at h;exact absurd h h2
 ·rw[if_pos h1] at h;exact absurd h h1
section
variable {o:List Dim} {l:List Entry} (ok:RightC o l) {p:List Int} (hf:Fit o p) {r c:Nat} (hr:r<p.length) (hc:c<p.length)
include ok hf hr hc
def S1377_eq {F:Solver->List Int->Option Cell} {s:Solver} (hF:∀p,Fit o p->F s p=some (sol o l p)):S1377 F P70 p (r:Int) (c:Int) o s=some (zeC o l p r c,.nil):=by
 have hlen:=ok.cube.out.len;have fx:=hf.len;have il:=Aa (l:=o) (i:=c) (by omega);have hdr:=Aa (l:=o) (i:=r) (by omega);have hmc:=ok.most _ (Ay (l:=o) (n:=c) (by omega));have nK:=ok.most _ (Ay (l:=o) (n:=r) (by omega));have enc:zmB o c=(o[c]).members.length:=by unfold zmB;rw[il];rfl
 have enr:zmB o r=(o[r]).members.length:=by unfold zmB;rw[hdr];rfl
 generalize hdC:o[c]=dc at il hmc enc;generalize hdR:o[r]=dr at hdr nK enr;simp only[S1377,zg,il,hdr,zj];have s1:=zP (B:=zdW dc) (fun i=>((i:Int),(([]:List Int),zam i,([]:List (List Cell))))) dc.members.length (fun i hi=>by
  have e4:wi ((i:Int)+1)=((i+1:Nat):Int):=by rw[zR (by omega) (by omega)];omega
  have bd:(zam i).length+[(i:Int)].length<=zC:=by rw[zjb];simp only[Bj];unfold zC;omega
  simp only[zdW];rw[zJ,if_pos (by omega)];simp only[zm bd,ji,e4,zgg])
 rw[zW,show ((0:Int),(([]:List Int),([]:List Int),([]:List (List Cell))))=(((0:Nat):Int),(([]:List Int),zam 0,([]:List (List Cell)))) from rfl,s1,zF (y:=((dc.members.length:Int),(([]:List Int),zam dc.members.length,([]:List (List Cell))))) (by simp only[zdW];rw[zJ,if_neg (by omega)];rfl)];simp only[zY];have inner:∀(i:Nat),i<dr.members.length->∀(g:List Int×List Int×List (List Cell)),lpO (zcf F P70 p (r:Int) (c:Int) s ((i:Int),g) dc) (([]:List Cell),(0:Int))=some (.inl (wx dc.members.length (atG o l p r c i),(dc.members.length:Int))):=by
  intro i hi g;have s2:=zP (B:=zcf F P70 p (r:Int) (c:Int) s ((i:Int),g) dc) (fun k=>(wx k (atG o l p r c i),(k:Int))) dc.members.length (fun k hk=>by
   have e4:wi ((k:Int)+1)=((k+1:Nat):Int):=by rw[zR (by omega) (by omega)];omega
   have bd:(wx k (atG o l p r c i)).length+[atG o l p r c i k].length<=zC:=by simp only[wx,Aq,BQ,Bj];unfold zC;omega
   have f1:=zeF hf hdr hi;have f2:=zeF f1 il hk;have p1:P70 p (r:Int) (i:Int)=some (p.set r (i:Int)):=zlT p r i hr (by omega);have p2:P70 (p.set r (i:Int)) (c:Int) (k:Int)=some ((p.set r (i:Int)).set c (k:Int)):=zlT _ c k (by rw[Cc];exact hc) (by rw[Cc];omega);simp only[zcf];rw[zJ,if_pos (by omega)];simp only[p1,p2,zj,hF _ f2];rw[show sol o l ((p.set r (i:Int)).set c (k:Int))=atG o l p r c i k from rfl,zm bd];simp only[ji,e4,wx,Cb,Bc,Aw,Bn])
  rw[show (([]:List Cell),(0:Int))=(wx 0 (atG o l p r c i),((0:Nat):Int)) from rfl,s2,zF (y:=(wx dc.members.length (atG o l p r c i),(dc.members.length:Int))) (by simp only[zcf];rw[zJ,if_neg (by omega)];rfl)]
 have s3:=zP (B:=zdV F P70 p (r:Int) (c:Int) o s dr) (fun i=>((i:Int),(zam i,zam dc.members.length,(List.range i).map fun i=>wx dc.members.length (atG o l p r c i)))) dr.members.length (fun i hi=>by
  have e4:wi ((i:Int)+1)=((i+1:Nat):Int):=by rw[zR (by omega) (by omega)];omega
  have bd:(zam i).length+[(i:Int)].length<=zC:=by rw[zjb];simp only[Bj];unfold zC;omega
  have kl:((List.range i).map fun i=>wx dc.members.length (atG o l p r c i)).length+[wx dc.members.length (atG o l p r c i)].length<=zC:=by simp only[Aq,BQ,Bj];unfold zC;omega
  simp only[zdV];rw[zJ,if_pos (by omega)];simp only[zm bd,zg,il,zj];rw[zW,inner i hi];simp only[zY,zm kl,ji,e4,zgg,Cb,Bc,Aw,Bn])
 rw[zW,show ((0:Int),(([]:List Int),zam dc.members.length,([]:List (List Cell))))=(((0:Nat):Int),(zam 0,zam dc.members.length,(List.range 0).map fun i=>wx dc.members.length (atG o l p r c i))) from rfl,s3,zF (y:=((dr.members.length:Int),(zam dr.members.length,zam dc.members.length,(List.range dr.members.length).map fun i=>wx dc.members.length (atG o l p r c i)))) (by simp only[zdV];rw[zJ,if_neg (by omega)];rfl)];simp only[zY,zeC,gridF,enc,enr]
end
end
section
open Go Go.RowKit
open Classical in
def P377 (o:List Dim) (l:List Entry) (p:List Int) (row col:Int):Option (Grid×Err) :=
 if Lst Entry.gd l∧p.length<=9223372036854775807 then (if zbY o l p row col=0 then some (zeC o l p row.toNat col.toNat,.nil) else some (⟨[],[],[]⟩,zn (zbY o l p row col))) else none
def k377:CSpec:=⟨377,[.st .outl,.sl .entry,.sl .int,.int,.int],.tp [.st .grid,.err],fun x=>P377 x.1 x.2.1 x.2.2.1 x.2.2.2.1 x.2.2.2.2,false,[]⟩
def k350x:CSpec:=⟨350,[.st .outl,.sl .entry],.tp [.bx .solver,.err],fun _=>none,false,[]⟩
def k351x:CSpec:=⟨351,[.bx .solver,.sl .int],.st .cell,fun _=>none,false,[]⟩
def MakeAt (S:Seat):Prop:=∀g,ql g S.fns=some 377->∃dL sd cK bf fn rest el,ql dL S.fns=some 349∧ql sd S.fns=some 58∧S.P.funcs[cK]? = some bf∧zbw S 350 bf=some tf350.er∧bf.results=#[.tmp 4,.tmp 5] ∧
 (∀J,jF (zH S J) fn.ntmps rest=some zkO.body.er)∧zd (zmG S.P) fn.results.toList=some zkO.res∧fn.ntmps=136 ∧
 (∀ {u0 l:Value} {pa:Option Addr} {pn pc row col:Nat} {W:World} {R:Ending->World->Prop} {N:World->World->Value->Prop},u0.oneCell'=true->row<pn->col<pn->row≠col->pn<=9223372036854775807 ->
  (∀X,K0' W X->Calls S.P dL #[.agg #[u0],l] X fun e Y=>e=.returned .nilIface∧K0' X Y) ->
  (∀X,K0' W X->Calls S.P sd #[.agg #[u0],.slice pa pn pc] X fun e Y=>e=.returned .nilIface∧K0' X Y) ->
  (∀X,K0' W X->W.heap.size+1<X.heap.size->Calls S.P cK #[.agg #[u0],l] X fun e Y=>∃pv,e=.returned (.tuple #[pv,.nilIface])∧K0' X Y∧N X Y pv) ->
  (∀X Y pv tm,K0' W X->W.heap.size+1<X.heap.size->K0' X Y->N X Y pv->X.cell? ⟨W.heap.size,0,none⟩=some u0->X.heap[W.heap.size+1]? = some (.cells #[.slice none 0 0,.slice none 0 0,.slice none 0 0] el (0,0))->tm.size=136->tm.getD 2 undef=.slice pa pn pc->tm.getD 3 undef=.int .i64 row ->
   tm.getD 4 undef=.int .i64 col->tm.getD 5 undef=.pointer (some ⟨W.heap.size,0,none⟩)->tm.getD 10 undef=.pointer (some ⟨W.heap.size+1,0,none⟩)->tm.getD 14 undef=pv->rest.wp S.P (bodyPost S.P fn R) { tmps:=tm,defers:=[] } Y) ->
  Calls S.P g #[.agg #[u0],l,.slice pa pn pc,.int .i64 row,.int .i64 col] W R)
def arg_sl {S:Seat} {A:Nat->Prop} {w:World} {z:Nat} {es:List (List AV)} {v:Value} (h:VR0 S A w (.sl z es) v):∃a c,v=.slice a es.length c:=by
 cases h with
 | sl _ _ _ _ _ _=>exact⟨_,_,rfl⟩
 | slnil=>exact⟨_,_,rfl⟩
 | slemp=>exact⟨_,_,rfl⟩
def zbz {m k:Nat} (h:¬k=m):Nat.beq m k=false:=by rw[←BZ];exact fun e=>h (Bt e).symm
section
variable {S:Seat} (hS:zZ S) (hP:Plain S) (dK:Rt S k355) (dQ:Rt S k40)
include hS hP dK dQ
def r377 (ct:Rt S k349) (lx:Rt S k58) (h70:Rt S k70) (hJ:∀J,JOk J->JKnows S J) (rU:∀J,Rt (zH S J) k70) (aK:Ok1 S 377 tf377) (ba:MakeAt S):Rt S k377:=fun (x:List Dim×List Entry×List Int×Int×Int) (y:Grid×Err) hy=>by
 obtain⟨o,l,p,row,col⟩:=x;have cm:P377 o l p row col=some y:=hy;clear hy;unfold P377 at cm;split at cm
 case isFalse=>cases cm
 rename_i hlp;obtain⟨hl,hp⟩:=hlp;by_cases hz:zbY o l p row col=0
 ·rw[if_pos hz] at cm;obtain rfl:=Option.some.inj cm;obtain⟨ok,hf,r,c,rfl,rfl,hr,hc,pr⟩:=make_ok hl hz;simp only[Ap];have hn:P349 o l=some .nil:=by rw[zbD hl,(zhl hl).2 ok];rfl
  have gY:P58 o p=some .nil:=by rw[zjo o p hp,jB.2 hf];rfl
  intro g hg;obtain⟨dL,sd,cK,bf,fn,rest,el,fS,pW,fR,fV,cS,cF,aD,ez,walk⟩:=ba g hg;have ar:(zb S).ret 349 [.agg [.sl 3 (o.map Dim.cs)],.sl 2 (l.map Entry.cs)] (Err.av .nil) []:=ct (o,l) .nil hn;have ar2:(zb S).ret 58 [.agg [.sl 3 (o.map Dim.cs)],.sl 1 (p.map fun n=>[aI n])] (Err.av .nil) []:=lx (o,p) .nil gY;show wY S g [.agg [.sl 3 (o.map Dim.cs)],.sl 2 (l.map Entry.cs),.sl 1 (p.map fun n=>[aI n]),.v (.int .i64 (r:Int)),.v (.int .i64 (c:Int))] (encA (.tp [.st .grid,.err]) (zeC o l p r c,Err.nil)) [];refine yB (fun A w vs eX hA hJR ha => ?_) (by simp[zG]);obtain⟨v0,v1,v2,v3,v4,rfl⟩:∃x0 x1 x2 x3 x4,vs=#[x0,x1,x2,x3,x4]:=by
   obtain⟨r⟩:=vs
   match r,eX with
   | [x0,x1,x2,x3,x4],_=>exact⟨x0,x1,x2,x3,x4,rfl⟩
  obtain⟨u0,rfl,a0,one⟩:=arg_o (show VR0 S A w (.agg [.sl 3 (o.map Dim.cs)]) v0 from ha 0 _ rfl);have a1:VR0 S A w (.sl 2 (l.map Entry.cs)) v1:=ha 1 _ rfl;have a2:VR0 S A w (.sl 1 (p.map fun n=>[aI n])) v2:=ha 2 _ rfl;obtain rfl:v3=.int .i64 (r:Int):=VR.v_inv (σ:=fun _=>none) (.of0 (ha 3 _ rfl));obtain rfl:v4=.int .i64 (c:Int):=VR.v_inv (σ:=fun _=>none) (.of0 (ha 4 _ rfl));obtain⟨pa,pc,rfl⟩:=arg_sl a2;rw[Aq] at a2 ha ⊢;have use:=fun (X:World) (hX:KeepO (fun _=>False) w X)=>ow hP fS ar (by simp[zG]) (A:=A) (w:=w) (X:=X) (vs:=#[.agg #[u0],v1]) rfl hA hX fun i x hx=>by
   match i,hx with
   | 0,hx=>exact ha 0 x hx
   | 1,hx=>exact ha 1 x hx
   | i+2,hx=>simp at hx
  have oK:=fun (X:World) (hX:KeepO (fun _=>False) w X)=>ow hP pW ar2 (by simp[zG]) (A:=A) (w:=w) (X:=X) (vs:=#[.agg #[u0],.slice pa p.length pc]) rfl hA hX fun i x hx=>by
   match i,hx with
   | 0,hx=>exact ha 0 x hx
   | 1,hx=>exact ha 2 x hx
   | i+2,hx=>simp at hx
  have fin:∀ {Z:World},KeepO (fun _=>False) w Z->KeepO S.jg w Z∧S.jn Z:=fun h=>⟨⟨h.os,h.tape,h.output,h.size,fun b hb _=>h.block b hb fun e=>e⟩,hP.n _⟩;refine walk (N:=fun X Y pv=>∃kb cb kc cc A',kb≠cb∧Inv S X∧NewIs S (fun b=>A b∨b=w.heap.size) X Y pv (JS o l kb cb kc cc).s A' (List.replicate (sizeN o) false) (List.replicate (sizeN o) ⟨0,0⟩)) one hr hc pr hp (fun X hX=>(use X hX).mono ?_) (fun X hX=>(oK X hX).mono ?_) (fun X hX aj => ?_) ?_
  ·rintro e Y ⟨v,rfl,hk,hr⟩;exact⟨by rw[zkc (zgF hr)],hk⟩
  ·rintro e Y ⟨v,rfl,hk,hr⟩;exact⟨by rw[zkc (zgF hr)],hk⟩
  ·exact ziy hS hP dK dQ ok fR fV cS hA a0 a1 hX (fun b hb=>.inl hb) fun b hb=>by
    rcases hb with hb|rfl
    ·exact AE (hA.1 b hb) hX.size
    ·omega
  ·rintro X Y pv tm hX aj fj ⟨kb,cb,kc,cc,A',ah,hi,au⟩ eE hd1 aF t2 t3 t4 t5 t10 t14;have jk:=hJ (JS o l kb cb kc cc) (jok ok ah);obtain⟨jr,jA,jI⟩:=au.jr (J:=JS o l kb cb kc cc) rfl (by simp[JS]) hi fj;have gu:=hX.trans fj;have hsX:=hX.size;have bk1:X.heap.size<=kb:=au.bk.1;have bc1:X.heap.size<=cb:=au.bc.1;have aL:∀x,A' x->A x∨w.heap.size<=x:=fun x hx=>by
    rcases (au.lt x hx).2 with (h|rfl)|h
    ·exact .inl h
    ·exact .inr (Az _)
    ·exact .inr (AD hX.size h)
   have rE:¬A' (w.heap.size+1):=fun h=>by
    rcases (au.lt _ h).2 with (h|h)|h
    ·have:=hA.1 _ h;omega
    ·omega
    ·omega
   have tO:∀b,(zH S (JS o l kb cb kc cc)).jg b->b=kb∨b=cb:=fun b hb=>hb;have jr2:JR (zH S (JS o l kb cb kc cc)) A' (fun x=>x=w.heap.size+1) Y:=⟨jr.jn,jr.lt,jr.na,fun b hb e=>by
    have e:b=w.heap.size+1:=e;rcases tO b hb with h|h<;>omega,jr.ng⟩
   have ax:zkO.runFrom [zms (JS o l kb cb kc cc),k70] { fr:=[(10,.pv 10 0),(2,enc (.sl .int) p),(3,enc .int (r:Int)),(4,enc .int (c:Int)),(5,enc (.bx .outl) o),(14,enc (.bx .solver) (JS o l kb cb kc cc).s)],hp:=[(10,.var [.nl,.nl,.nl])],ctr:=1 } (.tp [.st .grid,.err])=some (zeC o l p r c,Err.nil) :=
    (s1377 (zkF (JS o l kb cb kc cc)) P70 p (r:Int) (c:Int) o (JS o l kb cb kc cc).s).trans (S1377_eq ok hf hr hc fun q hq=>zlV ok hq)
   have tW:Y.heap[w.heap.size+1]? = some (.cells #[.slice none 0 0,.slice none 0 0,.slice none 0 0] el (0,0)):=(fj.block _ aj fun e=>e).trans hd1;have du:SRel (zH S (JS o l kb cb kc cc)) A' ⟨fun x=>x=w.heap.size+1,fun _=>none⟩ Y A' (fun s=>if s=10 then some (w.heap.size+1) else none) Y (TSt.toA { fr:=[(10,.pv 10 0),(2,enc (.sl .int) p),(3,enc .int (r:Int)),(4,enc .int (c:Int)),(5,enc (.bx .outl) o),(14,enc (.bx .solver) (JS o l kb cb kc cc).s)],hp:=[(10,.var [.nl,.nl,.nl])],ctr:=1 }) tm:=by
    refine SRel.startV (cs:=[.v (.slice none 0 0),.v (.slice none 0 0),.v (.slice none 0 0)]) (fun s => ?_) tW (by simp) (fun i x hx => ?_) (by simp[AV.refs,AV.refsL]) rE (fun q hq e => ?_) ⟨jA,jI⟩ fun k => ?_
    ·by_cases h:s=10
     ·subst h;rfl
     ·rw[if_neg h];simp only[TSt.toA,look,zbz h];rfl
    ·match i,hx with
     | 0,hx=>cases hx;exact .v _
     | 1,hx=>cases hx;exact .v _
     | 2,hx=>cases hx;exact .v _
     | i+3,hx=>simp at hx
    ·have:=hA.2.lt q hq;omega
    ·by_cases k10:k=10
     ·subst k10;exact .inr ⟨rfl,t10⟩
     refine .inl ?_;by_cases k2:k=2
     ·subst k2;rw[t2];show VR0 _ A' Y (.sl 1 (p.map fun n=>[aI n])) _;exact (a2.mono (fun b hb=>au.sub b (.inl hb)) fun b hb=>gu.block b (hA.1 b hb) fun e=>e).toJ
     by_cases k3:k=3
     ·subst k3;rw[t3];exact .v _
     by_cases k4:k=4
     ·subst k4;rw[t4];exact .v _
     by_cases k5:k=5
     ·subst k5;rw[t5];show VR0 _ A' Y (.ep [.sl 3 (o.map Dim.cs)] 0) _;refine .ep (b:=w.heap.size) (o:=0) (u:=fun _=>u0) (au.sub _ (.inr rfl)) (fun j hj => ?_) fun j x hx => ?_
      ·obtain rfl:j=0:=by simp at hj;omega
       exact (World.cell?_of_block (a:=⟨w.heap.size,0,none⟩) (fj.block _ (by show w.heap.size<_;omega) fun e=>e)).trans eE
      ·match j,hx with
       | 0,hx =>cases hx;exact (a0.mono (fun b hb=>au.sub b (.inl hb)) fun b hb=>gu.block b (hA.1 b hb) fun e=>e).toJ
       | j+1,hx=>simp at hx
     by_cases k14:k=14
     ·subst k14;rw[t14];exact au.rel.toJ
     simp only[TSt.toA,look,zbz k10,zbz k2,zbz k3,zbz k4,zbz k5,zbz k14];exact .bot _
   refine wp_mono (zjS (S:=zH S (JS o l kb cb kc cc)) (C:=[zms (JS o l kb cb kc cc),k70]) hS (.cons jk.at_ (.cons (rU _) .nil)) (cF _) aD rfl rfl ax (W:=w) (by rw[aF,ez]) (Nat.le_succ _) gu.size jr2 du) fun ex a Z h=>h.body fun v hk hj hr => ?_;have hZ:KeepO (fun _=>False) w Z:=⟨hk.os.trans gu.os,hk.tape.trans gu.tape,hk.output.trans gu.output,AD gu.size hk.size,fun b hb _=>(hk.block b (AE hb gu.size) fun e=>by
    rcases e with e|e
    ·omega
    ·rcases tO b e with h|h<;>omega).trans (gu.block b hb fun e=>e)⟩
   exact⟨v,rfl,(fin hZ).1,(fin hZ).2,ret_end hr aL (Az _)⟩
 ·rw[if_neg hz] at cm;obtain rfl:=Option.some.inj cm;exact Ok1.sound aK (C:=[k349,k350x,k351x,k58,k70]) (.cons ct (.cons (fun _ _ h=>by cases h) (.cons (fun _ _ h=>by cases h) (.cons lx (.cons h70 .nil))))) rfl rfl rfl ((s377 P349 (fun _ _=>none) (fun _ _=>none) P58 P70 o l p row col).trans (S377_err hl hp hz)) rfl
end
end
end Ab
