import Derived.Test.YtckaniphjiniiaaGreatDoorHB
set_option linter.all false
noncomputable section
namespace Ab
open Go
section
set_option maxRecDepth 100000
section
variable (F40:LD->(Option Int)) (F44:Dim->Int->(Option Bool)) (F51:LD->(Option Err)) (F69:LD->Int->(Option LI))
def tc49:TCode:=.seq (rg [oq 2 (.box 0),om 4 (ci 0)]) (.seq (rg [om 5 (ci 0)]) (.seq (.seq (rg [om 8 1,oq 9 (Ln 8),om 10 (ci 0)]) (.loop ⟨[.slot 5 .int,.slot 10 .int],[6,7,11,12,13,14,15,16,17,18,19,20,21,22,23,24,25,26],[],[]⟩ 0 (.seq (rg [oq 11 (Bi .lss 10 9)]) (.seq (.cond 11 .skip (.exit 0)) (.seq (.block 1 (.seq (rg [om 12 10,oq 13 (.ia 1 8 10),oq 14 (Ld 13),om 6 12,om 7 14]) (rg [om 15 5,oq 16 (.fa 0 2),oq 17 (Ld 16),om 18 6,oq 19 (.ia 3 17 18),oq 20 (.fa 2 19),oq 21 (Ld 20),oq 22 (Ln 21),oq 23 (Bi .mul 15 22),om 24 7,oq 25 (Bi .add 23 24),om 5 25]))) (rg [oq 26 (Bi .add 10 (ci 1)),om 10 26])))))) (.seq (rg [om 27 5,om 4 27]) .ret))) 
def tf49:TFunc:=⟨2,28,[.tmp 4],false,tc49,[]⟩
def zjn (a0:LD) (a1:LI) (x1:(Int×Int)):Option (LR (Int×Int) Int) :=
 br (decide (x1.2<(a1.length:Int)))
 (bno (zu a1 x1.2) fun y2 =>
 bno (zu a0 x1.2) fun y3 =>
 nxO (some (wi ((wi (x1.1*((Dim.members y3).length:Int)))+y2),wi (x1.2+(1:Int)))))
 (dnO (some (x1.1,x1.2)))
def S49 (a0:LD) (a1:LI):Option Int :=
 lp (zjn a0 a1) ((0:Int),(0:Int)) fun x4 =>
 some x4.1
def P49:=S49
def k49:CSpec:=⟨49,[(.st .outl),(.sl .int)],.int,fun x=>P49 x.1 x.2,false,[]⟩
def r49 {S:Seat} (h:Ok1 S 49 tf49):RtF S [] (Rt S k49):=okr h
def tc58:TCode:=.seq (rg [oq 2 (.box 0),om 4 cz]) (.seq (.seq (rg [om 7 1,oq 8 (Ln 7),oq 9 (.fa 0 2),oq 10 (Ld 9),oq 11 (Ln 10),oq 12 (Bi .neq 8 11)]) (.cond 12 (.seq (rg [oq 13 (.ifc 1 (ci 3)),om 4 13]) .ret) .skip)) (.seq (.seq (rg [om 14 1,oq 15 (Ln 14),om 16 (ci 0)]) (.loop ⟨[.slot 16 .int],[5,6,17,18,19,20,21,22,23,24,25,26,27,28,29,30,31,32,33,35],[],[]⟩ 0 (.seq (rg [oq 17 (Bi .lss 16 15)]) (.seq (.cond 17 .skip (.exit 0)) (.seq (.block 1 (.seq (rg [om 18 16,oq 19 (.ia 1 14 16),oq 20 (Ld 19),om 5 18,om 6 20]) (.seq (.regionJ ⟨[.slot 33 .bool],[21,22,23,24,25,26,27,28,29,30,31,32],[],[]⟩ [om 21 6,oq 22 (Bi .lss 21 (ci 0)),om 23 22,og 24 (.mov 6) 23 false [],og 25 (.fa 0 2) 23 false [],og 26 (Ld 25) 23 false [],og 27 (.mov 5) 23 false [],og 28 (.ia 3 26 27) 23 false [],og 29 (.fa 2 28) 23 false [],og 30 (Ld 29) 23 false [],og 31 (Ln 30) 23 false [],og 32 (Bi .geq 24 31) 23 false [],oq 33 (.pick 23 (cb true) 32)] [] false) (.cond 33 (.seq (rg [oq 34 (.ifc 1 (ci 1)),om 4 34]) .ret) .skip)))) (rg [oq 35 (Bi .add 16 (ci 1)),om 16 35])))))) (.seq (rg [om 4 cz]) .ret))) 
def tf58:TFunc:=⟨2,36,[.tmp 4],false,tc58,[]⟩
def S58_L1 (a0:LD) (a1:LI) (x1:Int):Option (LR Int Err) :=
 br (decide (x1<(a1.length:Int)))
 (bno (zu a1 x1) fun y2 =>
 jn (σ:=Bool) (α:=(LR Int Err)) (br (decide (y2<(0:Int)))
 (zt (some true))
 (bno (zu a0 x1) fun y3 =>
 zt (some (decide (((Dim.members y3).length:Int)<=y2))))) fun x4 =>
 br x4
 (yk (some (Err.no (1:Int))))
 (nxO (some (wi (x1+(1:Int))))))
 (dnO (some x1))
def S58 (a0:LD) (a1:LI):Option Err :=
 br (decide (¬(a1.length:Int)=(a0.length:Int)))
 (some (Err.no (3:Int)))
 (lp (S58_L1 a0 a1) (0:Int) fun x5 =>
 some Err.nil)
def P58:=S58
def k58:CSpec:=⟨58,[(.st .outl),(.sl .int)],.err,fun x=>P58 x.1 x.2,false,[]⟩
def r58 {S:Seat} (h:Ok1 S 58 tf58):RtF S [] (Rt S k58):=okr h
def tc59:TCode:=.seq (rg [oq 2 (.box 0),om 4 (cb false)]) (.seq (.seq (rg [om 7 1,oq 8 (Ln 7),om 9 (ci 0)]) (.loop ⟨[.slot 9 .int],[5,6,10,11,12,13,14,15,16,17,18,19,20,21,22],[],[]⟩ 0 (.seq (rg [oq 10 (Bi .lss 9 8)]) (.seq (.cond 10 .skip (.exit 0)) (.seq (.block 1 (.seq (rg [om 11 9,oq 12 (.ia 1 7 9),oq 13 (Ld 12),om 5 11,om 6 13]) (.seq (rg [oq 14 (.fa 0 2),oq 15 (Ld 14),om 16 5,oq 17 (.ia 3 15 16),oq 18 (.load (some 3) 17),om 19 6,oq 20 (Cl 44 [18,19]),oq 21 (.un .not 20)]) (.cond 21 (.seq (rg [om 4 (cb false)]) .ret) .skip)))) (rg [oq 22 (Bi .add 9 (ci 1)),om 9 22])))))) (.seq (rg [om 4 (cb true)]) .ret)) 
def tf59:TFunc:=⟨2,23,[.tmp 4],false,tc59,[]⟩
def S59_L1 (a0:LD) (a1:LI) (x1:Int):Option (LR Int Bool) :=
 br (decide (x1<(a1.length:Int)))
 (bno (zu a1 x1) fun y2 =>
 bno (zu a0 x1) fun y3 =>
 bno (F44 y3 y2) fun y4 =>
 br (!y4)
 (yk (some false))
 (nxO (some (wi (x1+(1:Int))))))
 (dnO (some x1))
def S59 (a0:LD) (a1:LI):Option Bool :=
 lp (S59_L1 F44 a0 a1) (0:Int) fun x5 =>
 some true
def P59:=S59 P44
def k59:CSpec:=⟨59,[(.st .outl),(.sl .int)],.bool,fun x=>P59 x.1 x.2,false,[]⟩
def r59 {S:Seat} (h:Ok1 S 59 tf59):RtF S [k44] (Rt S k59):=okr h
def tc69:TCode:=.seq (rg [oq 2 (.box 0),om 4 cn]) (.seq (rg [oq 8 (.fa 0 2),oq 9 (Ld 8),oq 10 (Ln 9),oq 11 (.mksl 1 [.int .i64 0] 10 10),om 5 11]) (.seq (.seq (rg [om 12 5,oq 13 (Ln 12),oq 14 (Bi .sub 13 (ci 1)),om 6 14]) (.loop ⟨[.slot 1 .int,.slot 6 .int,.rowH 11 .int],[7,15,16,17,18,19,20,21,22,23,24,25,26,27,28,29,30,31,32,33,34],[],[]⟩ 0 (.seq (.seq (rg [om 15 6,oq 16 (Bi .geq 15 (ci 0))]) (.cond 16 .skip (.exit 0))) (.seq (.block 1 (.seq (rg [oq 19 (.fa 0 2),oq 20 (Ld 19),om 21 6,oq 22 (.ia 3 20 21),oq 23 (.fa 2 22),oq 24 (Ld 23),oq 25 (Ln 24),om 7 25]) (.seq (rg [om 26 5,om 27 6,om 28 1,om 29 7,oq 30 (Bi .rem 28 29),oq 31 (.ia 1 26 27),on (.store 1 31 30)]) (rg [om 32 1,om 33 7,oq 34 (Bi .quo 32 33),om 1 34])))) (rg [om 17 6,oq 18 (Bi .sub 17 (ci 1)),om 6 18]))))) (.seq (rg [om 35 5,om 4 35]) .ret))) 
def tf69:TFunc:=⟨2,36,[.tmp 4],false,tc69,[]⟩
def zjm (a0:LD) (x1:(Int×Int×LI)):Option (LR (Int×Int×LI) LI) :=
 br (decide ((0:Int)<=x1.2.1))
 (bno (zu a0 x1.2.1) fun y2 =>
 ck (decide (¬((Dim.members y2).length:Int)=0)) <|
 ck (decide (0<=x1.2.1∧x1.2.1<(x1.2.2.length:Int))) <|
 bno ((x1.2.2)[(Int.toNat x1.2.1)]?) fun y3 =>
 ck (decide (¬((Dim.members y2).length:Int)=0)) <|
 nxO (some (wi (Int.tdiv x1.1 ((Dim.members y2).length:Int)),wi (x1.2.1-(1:Int)),List.set x1.2.2 (Int.toNat x1.2.1) (Int.tmod x1.1 ((Dim.members y2).length:Int)))))
 (dnO (some (x1.1,x1.2.1,x1.2.2)))
def S69 (a0:LD) (a1:Int):Option LI :=
 ck (decide (0<=(a0.length:Int)∧(a0.length:Int)<=(a0.length:Int)∧(a0.length:Int)<=zC)) <|
 lp (zjm a0) (a1,wi (((List.length (List.replicate (Int.toNat (a0.length:Int)) (0:Int)):Nat):Int)-(1:Int)),List.replicate (Int.toNat (a0.length:Int)) (0:Int)) fun x4 =>
 some x4.2.2
def P69:=S69
def k69:CSpec:=⟨69,[(.st .outl),.int],(.sl .int),fun x=>P69 x.1 x.2,false,[]⟩
def r69 {S:Seat} (h:Ok1 S 69 tf69):RtF S [] (Rt S k69):=okr h
end
end
section
set_option maxRecDepth 100000
section
variable (F114:LD->LI->(Option Err)) (F49:LD->LI->(Option Int)) (F51:LD->(Option Err)) (F58:LD->LI->(Option Err)) (F59:LD->LI->(Option Bool))
def tc114:TCode:=.seq (rg [oq 2 (.box 0),om 4 cz]) (.seq (.seq (rg [oq 6 (.load (some 1) 2),oq 7 (Cl 51 [6]),om 5 7]) (.seq (rg [om 8 5,oq 9 (.eqn false true 8)]) (.cond 9 (.seq (rg [om 10 5,om 4 10]) .ret) .skip))) (.seq (rg [oq 11 (.load (some 1) 2),om 12 1,oq 13 (Cl 58 [11,12]),om 4 13]) .ret)) 
def tf114:TFunc:=⟨2,14,[.tmp 4],false,tc114,[]⟩
def S114 (a0:LD) (a1:LI):Option Err :=
 bno (F51 a0) fun y1 =>
 br (!(Err.isNil y1))
 (some y1)
 (bno (F58 a0 a1) fun y2 =>
 some y2)
def P114:=S114 P51 P58
def k114:CSpec:=⟨114,[(.st .outl),(.sl .int)],.err,fun x=>P114 x.1 x.2,false,[]⟩
def r114 {S:Seat} (h:Ok1 S 114 tf114):RtF S [k51,k58] (Rt S k114):=okr h
end
end
end Ab
