/-
  Functions of the program as typed code, what they come to, and their contracts: written by program (mk.py).
-/
import Derived.Test.YtcknjppeompbkaaGreatDoorB2
set_option linter.all false
noncomputable section
namespace Ab
open Go
set_option maxRecDepth 100000
section
variable (F14:LD->(Option (Int×Int×Err))) (F15:Dim->(Option (Int×Err))) (F37:LM->ByteArray->(Option Int)) (F38_39:LD->Dim->(Option Bool)) (F39:Dim->Dim->(Option Bool)) (F40:LD->(Option Int)) (F41:ByteArray->(Option Err)) (F42:LM->Int->(Option Err)) (F63_64:LM->ByteArray->(Option Int)) (F64:Member->ByteArray->(Option Bool)) (F65_39:LD->Dim->(Option Int)) (F66_67:(List UInt8)->(Option Bool)) (F67:Int->(Option Bool)) (F75_67:(List UInt8)->(Option Int))
def tc67:TCode:=.seq (rg [om 2 (cb false)]) (.seq (.regionJ ⟨[.slot 2 .bool],[3,4,5,6,7,8],[],[]⟩ [om 3 0,oq 4 (.bin .int .lss 3 (.c (.int .u8 97))),om 5 4,og 6 (.mov 0) 5 false [],og 7 (.bin .int .gtr 6 (.c (.int .u8 122))) 5 false [],oq 8 (.pick 5 (cb true) 7),om 2 8] [] false) (.ret)) 
def tf67:TFunc:=⟨1,9,[.tmp 2],false,tc67,[]⟩
def S67 (a0:Int):Option Bool :=
 jn (σ:=Bool) (α:=Bool) (br (decide (a0 < (97:Int)))
 (zD (some true))
 (zD (some (decide ((122:Int) < a0))))) fun x1 =>
 some x1
def P67:=S67
def k67:CSpec:=⟨67,[.u8],.bool,fun x=>P67 x,false,[]⟩
def r67 {S:Seat} (h:Ok1 S 67 tf67):RtF S [] (Rt S k67):=okr h rfl fun x=>by kernel_rfl
def tc75:TCode:=.seq (rg [om 4 (ci 0)]) (.seq (.seq (rg [om 6 0,oq 7 (.len false 6),om 8 (ci 0)]) (.loop ⟨[.slot 8 .int],[5,9,10,11,12,13,14,15,16,18],[],[]⟩ 0 (.seq (rg [oq 9 (.bin .int .lss 8 7)]) (.seq (.cond 9 (.skip) (.exit 0)) (.seq (.block 1 (.seq (rg [om 10 8,om 5 10]) (.seq (rg [om 11 1,om 12 0,om 13 5,oq 14 (.ia 1 12 13),oq 15 (.load none 14),oq 16 (.calld false 11 [15])]) (.cond 16 (.seq (rg [om 17 5,om 4 17]) (.ret)) (.skip))))) (rg [oq 18 (.bin .int .add 8 (ci 1)),om 8 18])))))) (.seq (rg [om 4 (ci (-1))]) (.ret))) 
def tf75:TFunc:=⟨2,19,[.tmp 4],false,tc75,[]⟩
def zdp (a0:(List UInt8)) (x1:Int):Option (LR Int Int) :=
 br (decide (x1 < (a0.length:Int)))
 (bno (qb a0 x1) fun y2 =>
 bno (F67 ((UInt8.toNat y2:Nat):Int)) fun y3 =>
 br y3
 (wj (some x1))
 (nxO (some (wi (x1+(1:Int))))))
 (dnO (some x1))
def S75_67 (a0:(List UInt8)):Option Int :=
 lp (zdp F67 a0) (0:Int) fun x4 =>
 some (-1:Int)
def P75_67:=S75_67 P67
def k75_67:CSpec:=⟨75,[(.sl .u8),(.fnc 67 [])],.int,fun x=>P75_67 x.1,false,[]⟩
def r75_67 {S:Seat} (h:Ok1 S 75 tf75):RtF S [k67] (Rt S k75_67):=okr h rfl fun x=>by kernel_rfl
def tc66:TCode:=.seq (rg [om 4 (cb false)]) (.seq (rg [om 5 0,om 6 1,oq 7 (.call false [] 75 [5,6]),oq 8 (.bin .int .geq 7 (ci 0)),om 4 8]) (.ret)) 
def tf66:TFunc:=⟨2,9,[.tmp 4],false,tc66,[]⟩
def S66_67 (a0:(List UInt8)):Option Bool :=
 bno (F75_67 a0) fun y1 =>
 some (decide ((0:Int)<=y1))
def P66_67:=S66_67 P75_67
def k66_67:CSpec:=⟨66,[(.sl .u8),(.fnc 67 [])],.bool,fun x=>P66_67 x.1,false,[]⟩
def r66_67 {S:Seat} (h:Ok1 S 66 tf66):RtF S [k75_67] (Rt S k66_67):=okr h rfl fun x=>by kernel_rfl
def tc41:TCode:=.seq (rg [om 2 cz]) (.seq (.seq (.regionJ ⟨[.slot 14 .bool],[3,4,5,6,7,8,9,10,11,12,13],[],[]⟩ [om 3 0,oq 4 (.bin .str .eql 3 (cs ⟨#[]⟩)),om 5 4,og 6 (.mov 0) 5 false [],og 7 (.len true 6) 5 false [],og 8 (.bin .int .gtr 7 (ci 8)) 5 false [],oq 9 (.pick 5 (cb true) 8),om 10 9,og 11 (.mov 0) 10 false [],og 12 (.cvs 11) 10 false [],og 13 (.call false [] 66 [12,(.f 67)]) 10 false [],oq 14 (.pick 10 (cb true) 13)] [] false) (.cond 14 (.seq (rg [oq 15 (.ifc 1 (ci 2)),om 2 15]) (.ret)) (.skip))) (.seq (rg [om 2 cz]) (.ret))) 
def tf41:TFunc:=⟨1,16,[.tmp 2],false,tc41,[]⟩
def S41 (a0:ByteArray):Option Err :=
 jn (σ:=Bool) (α:=Err) (br (decide (a0=(⟨#[]⟩:ByteArray)))
 (zD (some true))
 (br (decide ((8:Int) < ((ByteArray.size a0:Nat):Int)))
 (zD (some true))
 (bno (F66_67 ((ByteArray.data a0).toList)) fun y1 =>
 zD (some y1)))) fun x2 =>
 br x2
 (some (Err.no (2:Int)))
 (some Err.nil)
def P41:=S41 P66_67
def k41:CSpec:=⟨41,[.str],.err,fun x=>P41 x,false,[]⟩
def r41 {S:Seat} (h:Ok1 S 41 tf41):RtF S [k66_67] (Rt S k41):=okr h rfl fun x=>by kernel_rfl
def tc64:TCode:=.seq (rg [oq 2 (.box 0),om 3 (cb false)]) (.seq (rg [oq 4 (.fa 0 2),oq 5 (.load none 4),oq 6 (.load none 1),oq 7 (.bin .str .eql 5 6),om 3 7]) (.ret)) 
def tf64:TFunc:=⟨2,8,[.tmp 3],false,tc64,[]⟩
def S64 (a0:Member) (a1:ByteArray):Option Bool :=
 some (decide ((Member.name a0)=a1))
def P64:=S64
def k64:CSpec:=⟨64,[(.st .member),(.bx .str)],.bool,fun x=>P64 x.1 x.2,false,[]⟩
def r64 {S:Seat} (h:Ok1 S 64 tf64):RtF S [] (Rt S k64):=okr h rfl fun x=>by kernel_rfl
def tc63:TCode:=.seq (rg [om 4 (ci 0)]) (.seq (.seq (rg [om 6 0,oq 7 (.len false 6),om 8 (ci 0)]) (.loop ⟨[.slot 8 .int],[5,9,10,11,12,13,14,15,16,18],[],[]⟩ 0 (.seq (rg [oq 9 (.bin .int .lss 8 7)]) (.seq (.cond 9 (.skip) (.exit 0)) (.seq (.block 1 (.seq (rg [om 10 8,om 5 10]) (.seq (rg [om 11 1,om 12 0,om 13 5,oq 14 (.ia 4 12 13),oq 15 (.load (some 4) 14),oq 16 (.calld false 11 [15])]) (.cond 16 (.seq (rg [om 17 5,om 4 17]) (.ret)) (.skip))))) (rg [oq 18 (.bin .int .add 8 (ci 1)),om 8 18])))))) (.seq (rg [om 4 (ci (-1))]) (.ret))) 
def tf63:TFunc:=⟨2,19,[.tmp 4],false,tc63,[]⟩
def zdr (a0:LM) (a1:ByteArray) (x1:Int):Option (LR Int Int) :=
 br (decide (x1 < (a0.length:Int)))
 (bno (qb a0 x1) fun y2 =>
 bno (F64 y2 a1) fun y3 =>
 br y3
 (wj (some x1))
 (nxO (some (wi (x1+(1:Int))))))
 (dnO (some x1))
def S63_64 (a0:LM) (a1:ByteArray):Option Int :=
 lp (zdr F64 a0 a1) (0:Int) fun x4 =>
 some (-1:Int)
def P63_64:=S63_64 P64
def k63_64:CSpec:=⟨63,[(.sl .member),(.fnc 64 [(.bx .str)])],.int,fun x=>P63_64 x.1 x.2,false,[]⟩
def r63_64 {S:Seat} (h:Ok1 S 63 tf63):RtF S [k64] (Rt S k63_64):=okr h rfl fun x=>by kernel_rfl
def tc37:TCode:=.seq (rg [oq 3 (.box 1),om 4 (ci 0)]) (.seq (rg [om 5 0,oq 6 (.mkfn 64 [3]),oq 7 (.call false [] 63 [5,6]),om 4 7]) (.ret)) 
def tf37:TFunc:=⟨2,8,[.tmp 4],false,tc37,[]⟩
def S37 (a0:LM) (a1:ByteArray):Option Int :=
 bno (F63_64 a0 a1) fun y1 =>
 some y1
def P37:=S37 P63_64
def k37:CSpec:=⟨37,[(.sl .member),.str],.int,fun x=>P37 x.1 x.2,false,[]⟩
def r37 {S:Seat} (h:Ok1 S 37 tf37):RtF S [k63_64] (Rt S k37):=okr h rfl fun x=>by kernel_rfl
def tc42:TCode:=.seq (rg [om 4 cz]) (.seq (rg [om 7 0,om 8 1,oq 9 (.ia 4 7 8),oq 10 (.load (some 4) 9),oq 5 (.alloc [.string ⟨#[]⟩,.int .i64 0,.int .i64 0,.string ⟨#[]⟩]),on (.store 4 5 10)]) (.seq (.seq (rg [oq 11 (.fa 0 5),oq 12 (.load none 11),oq 13 (.call false [] 41 [12]),om 6 13]) (.seq (rg [om 14 6,oq 15 (.eqn false true 14)]) (.cond 15 (.seq (rg [om 16 6,om 4 16]) (.ret)) (.skip)))) (.seq (.block 0 (.seq (.region [om 18 0,om 19 1,od 20 (.slc 4 18 none (some 19)) [0,1],oq 21 (.fa 0 5),od 22 (.load none 21) [3],od 23 (.call false [] 37 [20,22]) [2,4],od 24 (.bin .int .geq 23 (ci 0)) [5],od 17 (.mov 24) [6,5]] [] true) (.cond 17 (.seq (rg [oq 25 (.ifc 1 (ci 7)),om 4 25]) (.ret)) (.seq (.regionJ ⟨[.slot 26 .bool],[27,28,29,30,31,32,33,34,35],[],[]⟩ [oq 27 (.fa 1 5),oq 28 (.load none 27),oq 29 (.bin .int .lss 28 (ci (-1))),om 30 29,og 31 (.fa 1 5) 30 false [],og 32 (.load none 31) 30 false [],og 33 (.mov 1) 30 false [],og 34 (.bin .int .geq 32 33) 30 false [],oq 35 (.pick 30 (cb true) 34),om 26 35] [] false) (.cond 26 (.seq (rg [oq 36 (.ifc 1 (ci 1)),om 4 36]) (.ret)) (.seq (.regionJ ⟨[.slot 37 .bool],[38,39,40,41,42,43,44,45,46,47,48,49],[],[]⟩ [oq 38 (.fa 1 5),oq 39 (.load none 38),oq 40 (.bin .int .geq 39 (ci 0)),om 41 40,og 42 (.mov 0) 41 true [],og 43 (.fa 1 5) 41 true [],og 44 (.load none 43) 41 true [],og 45 (.ia 4 42 44) 41 true [],og 46 (.fa 3 45) 41 true [],og 47 (.load none 46) 41 true [],og 48 (.bin .str .neq 47 (cs ⟨#[]⟩)) 41 true [],oq 49 (.pick 41 48 (cb false)),om 37 49] [] false) (.cond 37 (.seq (rg [oq 50 (.ifc 1 (ci 6)),om 4 50]) (.ret)) (.seq (.regionJ ⟨[.slot 51 .bool],[52,53,54,55,56,57,58,59],[],[]⟩ [oq 52 (.fa 2 5),oq 53 (.load none 52),oq 54 (.bin .int .lss 53 (ci (-1))),om 55 54,og 56 (.fa 2 5) 55 false [],og 57 (.load none 56) 55 false [],og 58 (.bin .int .gtr 57 (ci 1)) 55 false [],oq 59 (.pick 55 (cb true) 58),om 51 59] [] false) (.cond 51 (.seq (rg [oq 60 (.ifc 1 (ci 1)),om 4 60]) (.ret)) (.seq (rg [oq 62 (.fa 3 5),oq 63 (.load none 62),oq 64 (.len true 63),oq 65 (.bin .int .gtr 64 (ci 100)),om 61 65]) (.cond 61 (.seq (rg [oq 66 (.ifc 1 (ci 4)),om 4 66]) (.ret)) (.skip)))))))))))) (.seq (rg [om 4 cz]) (.ret))))) 
def tf42:TFunc:=⟨2,67,[.tmp 4],false,tc42,[]⟩
def S42 (a0:LM) (a1:Int):Option Err :=
 bno (qb a0 a1) fun y1 =>
 bno (F41 (Member.name y1)) fun y2 =>
 br (!(Err.isNil y2))
 (some y2)
 (ck (decide (0<=(0:Int)∧(0:Int)<=a1∧a1<=(a0.length:Int))) <|
 bno (F37 (List.take (Int.toNat a1 - Int.toNat (0:Int)) (List.drop (Int.toNat (0:Int)) a0)) (Member.name y1)) fun y3 =>
 br (decide ((0:Int)<=y3))
 (some (Err.no (7:Int)))
 (jn (σ:=Bool) (α:=Err) (br (decide ((Member.parent y1) < (-1:Int)))
 (zD (some true))
 (zD (some (decide (a1<=(Member.parent y1)))))) fun x4 =>
 br x4
 (some (Err.no (1:Int)))
 (jn (σ:=Bool) (α:=Err) (br (decide ((0:Int)<=(Member.parent y1)))
 (bno (qb a0 (Member.parent y1)) fun y5 =>
 zD (some (decide (¬ (Member.formula y5)=(⟨#[]⟩:ByteArray)))))
 (zD (some false))) fun x6 =>
 br x6
 (some (Err.no (6:Int)))
 (jn (σ:=Bool) (α:=Err) (br (decide ((Member.sign y1) < (-1:Int)))
 (zD (some true))
 (zD (some (decide ((1:Int) < (Member.sign y1)))))) fun x7 =>
 br x7
 (some (Err.no (1:Int)))
 (br (decide ((100:Int) < ((ByteArray.size (Member.formula y1):Nat):Int)))
 (some (Err.no (4:Int)))
 (some Err.nil))))))
def P42:=S42 P37 P41
def k42:CSpec:=⟨42,[(.sl .member),.int],.err,fun x=>P42 x.1 x.2,false,[]⟩
def r42 {S:Seat} (h:Ok1 S 42 tf42):RtF S [k37,k41] (Rt S k42):=okr h rfl fun x=>by kernel_rfl
def tc15:TCode:=.seq (rg [oq 1 (.box 0),om 2 (ci 0),om 3 cz]) (.seq (.seq (rg [oq 7 (.fa 0 1),oq 8 (.load none 7),oq 9 (.call false [] 41 [8]),om 4 9]) (.seq (rg [om 10 4,oq 11 (.eqn false true 10)]) (.cond 11 (.seq (rg [om 12 4,om 2 (ci (-1)),om 3 12]) (.ret)) (.skip)))) (.seq (.block 0 (.seq (.regionJ ⟨[.slot 13 .bool],[14,15,16,17,18,19,20,21],[],[]⟩ [oq 14 (.fa 1 1),oq 15 (.load none 14),oq 16 (.bin .int .lss 15 (ci 0)),om 17 16,og 18 (.fa 1 1) 17 false [],og 19 (.load none 18) 17 false [],og 20 (.bin .int .gtr 19 (ci 9)) 17 false [],oq 21 (.pick 17 (cb true) 20),om 13 21] [] false) (.cond 13 (.seq (rg [oq 22 (.ifc 1 (ci 1)),om 2 (ci (-1)),om 3 22]) (.ret)) (.seq (rg [oq 24 (.fa 2 1),oq 25 (.load none 24),oq 26 (.len false 25),oq 27 (.bin .int .gtr 26 (ci 12)),om 23 27]) (.cond 23 (.seq (rg [oq 28 (.ifc 1 (ci 4)),om 2 (ci (-1)),om 3 28]) (.ret)) (.seq (rg [oq 30 (.fa 2 1),oq 31 (.load none 30),oq 32 (.len false 31),oq 33 (.bin .int .eql 32 (ci 0)),om 29 33]) (.cond 29 (.seq (rg [oq 34 (.ifc 1 (ci 5)),om 2 (ci (-1)),om 3 34]) (.ret)) (.skip)))))))) (.seq (.seq (rg [oq 35 (.fa 2 1),oq 36 (.load none 35),oq 37 (.len false 36),om 38 (ci 0)]) (.loop ⟨[.slot 38 .int],[5,6,39,40,41,42,43,44,45,46,49],[],[]⟩ 1 (.seq (rg [oq 39 (.bin .int .lss 38 37)]) (.seq (.cond 39 (.skip) (.exit 1)) (.seq (.block 2 (.seq (rg [om 40 38,om 5 40]) (.seq (rg [oq 41 (.fa 2 1),oq 42 (.load none 41),om 43 5,oq 44 (.call false [] 42 [42,43]),om 6 44]) (.seq (rg [om 45 6,oq 46 (.eqn false true 45)]) (.cond 46 (.seq (rg [om 47 5,om 48 6,om 2 47,om 3 48]) (.ret)) (.skip)))))) (rg [oq 49 (.bin .int .add 38 (ci 1)),om 38 49])))))) (.seq (rg [om 2 (ci (-1)),om 3 cz]) (.ret))))) 
def tf15:TFunc:=⟨1,50,[.tmp 2,.tmp 3],false,tc15,[]⟩
def ziw (a0:Dim) (x3:Int):Option (LR Int (Int×Err)) :=
 br (decide (x3 < ((Dim.members a0).length:Int)))
 (bno (F42 (Dim.members a0) x3) fun y4 =>
 br (!(Err.isNil y4))
 (wj (some (x3,y4)))
 (nxO (some (wi (x3+(1:Int))))))
 (dnO (some x3))
def S15 (a0:Dim):Option (Int×Err) :=
 bno (F41 (Dim.name a0)) fun y1 =>
 br (!(Err.isNil y1))
 (some ((-1:Int),y1))
 (jn (σ:=Bool) (α:=(Int×Err)) (br (decide ((Dim.solve a0) < (0:Int)))
 (zD (some true))
 (zD (some (decide ((9:Int) < (Dim.solve a0)))))) fun x2 =>
 br x2
 (some ((-1:Int),Err.no (1:Int)))
 (br (decide ((12:Int) < ((Dim.members a0).length:Int)))
 (some ((-1:Int),Err.no (4:Int)))
 (br (decide (((Dim.members a0).length:Int)=(0:Int)))
 (some ((-1:Int),Err.no (5:Int)))
 (lp (ziw F42 a0) (0:Int) fun x5 =>
 some ((-1:Int),Err.nil)))))
def P15:=S15 P41 P42
def k15:CSpec:=⟨15,[(.st .dim)],(.tp [.int,.err]),fun x=>P15 x,false,[]⟩
def r15 {S:Seat} (h:Ok1 S 15 tf15):RtF S [k41,k42] (Rt S k15):=okr h rfl fun x=>by kernel_rfl
def tc39:TCode:=.seq (rg [oq 2 (.box 0),om 3 (cb false)]) (.seq (rg [oq 4 (.fa 0 2),oq 5 (.load none 4),oq 6 (.fa 0 1),oq 7 (.load none 6),oq 8 (.bin .str .eql 5 7),om 3 8]) (.ret)) 
def tf39:TFunc:=⟨2,9,[.tmp 3],false,tc39,[]⟩
def S39 (a0:Dim) (a1:Dim):Option Bool :=
 some (decide ((Dim.name a0)=(Dim.name a1)))
def P39:=S39
def k39:CSpec:=⟨39,[(.st .dim),(.bx .dim)],.bool,fun x=>P39 x.1 x.2,false,[]⟩
def r39 {S:Seat} (h:Ok1 S 39 tf39):RtF S [] (Rt S k39):=okr h rfl fun x=>by kernel_rfl
def tc65:TCode:=.seq (rg [om 4 (ci 0)]) (.seq (.seq (rg [om 6 0,oq 7 (.len false 6),om 8 (ci 0)]) (.loop ⟨[.slot 8 .int],[5,9,10,11,12,13,14,15,16,18],[],[]⟩ 0 (.seq (rg [oq 9 (.bin .int .lss 8 7)]) (.seq (.cond 9 (.skip) (.exit 0)) (.seq (.block 1 (.seq (rg [om 10 8,om 5 10]) (.seq (rg [om 11 1,om 12 0,om 13 5,oq 14 (.ia 3 12 13),oq 15 (.load (some 3) 14),oq 16 (.calld false 11 [15])]) (.cond 16 (.seq (rg [om 17 5,om 4 17]) (.ret)) (.skip))))) (rg [oq 18 (.bin .int .add 8 (ci 1)),om 8 18])))))) (.seq (rg [om 4 (ci (-1))]) (.ret))) 
def tf65:TFunc:=⟨2,19,[.tmp 4],false,tc65,[]⟩
def zdq (a0:LD) (a1:Dim) (x1:Int):Option (LR Int Int) :=
 br (decide (x1 < (a0.length:Int)))
 (bno (qb a0 x1) fun y2 =>
 bno (F39 y2 a1) fun y3 =>
 br y3
 (wj (some x1))
 (nxO (some (wi (x1+(1:Int))))))
 (dnO (some x1))
def S65_39 (a0:LD) (a1:Dim):Option Int :=
 lp (zdq F39 a0 a1) (0:Int) fun x4 =>
 some (-1:Int)
def P65_39:=S65_39 P39
def k65_39:CSpec:=⟨65,[(.sl .dim),(.fnc 39 [(.bx .dim)])],.int,fun x=>P65_39 x.1 x.2,false,[]⟩
def r65_39 {S:Seat} (h:Ok1 S 65 tf65):RtF S [k39] (Rt S k65_39):=okr h rfl fun x=>by kernel_rfl
def tc38:TCode:=.seq (rg [om 4 (cb false)]) (.seq (rg [om 5 0,om 6 1,oq 7 (.call false [] 65 [5,6]),oq 8 (.bin .int .geq 7 (ci 0)),om 4 8]) (.ret)) 
def tf38:TFunc:=⟨2,9,[.tmp 4],false,tc38,[]⟩
def S38_39 (a0:LD) (a1:Dim):Option Bool :=
 bno (F65_39 a0 a1) fun y1 =>
 some (decide ((0:Int)<=y1))
def zgx:=S38_39 P65_39
def k38_39:CSpec:=⟨38,[(.sl .dim),(.fnc 39 [(.bx .dim)])],.bool,fun x=>zgx x.1 x.2,false,[]⟩
def r38_39 {S:Seat} (h:Ok1 S 38 tf38):RtF S [k65_39] (Rt S k38_39):=okr h rfl fun x=>by kernel_rfl
def tc40:TCode:=.seq (rg [oq 1 (.box 0),om 2 (ci 0)]) (.seq (rg [om 3 (ci 1)]) (.seq (.seq (rg [oq 6 (.fa 0 1),oq 7 (.load none 6),oq 8 (.len false 7),om 9 (ci 0)]) (.loop ⟨[.slot 3 .int,.slot 9 .int],[5,10,11,12,13,14,15,16,17,18],[5],[]⟩ 0 (.seq (rg [oq 10 (.bin .int .lss 9 8)]) (.seq (.cond 10 (.skip) (.exit 0)) (.seq (.block 1 (.seq (rg [oq 11 (.ia 3 7 9),oq 12 (.load (some 3) 11),oq 5 (.alloc [.string ⟨#[]⟩,.int .i64 0,.slice none 0 0]),on (.store 3 5 12)]) (rg [om 13 3,oq 14 (.fa 2 5),oq 15 (.load none 14),oq 16 (.len false 15),oq 17 (.bin .int .mul 13 16),om 3 17]))) (rg [oq 18 (.bin .int .add 9 (ci 1)),om 9 18])))))) (.seq (rg [om 19 3,om 2 19]) (.ret)))) 
def tf40:TFunc:=⟨1,20,[.tmp 2],false,tc40,[]⟩
def ziu (a0:LD) (x1:(Int×Int)):Option (LR (Int×Int) Int) :=
 br (decide (x1.2 < (a0.length:Int)))
 (bno (qb a0 x1.2) fun y2 =>
 nxO (some (wi (x1.1 * ((Dim.members y2).length:Int)),wi (x1.2+(1:Int)))))
 (dnO (some (x1.1,x1.2)))
def S40 (a0:LD):Option Int :=
 lp (ziu a0) ((1:Int),(0:Int)) fun x3 =>
 some x3.1
def P40:=S40
def k40:CSpec:=⟨40,[(.st .outl)],.int,fun x=>P40 x,false,[]⟩
def r40 {S:Seat} (h:Ok1 S 40 tf40):RtF S [] (Rt S k40):=okr h rfl fun x=>by kernel_rfl
def tc14:TCode:=.seq (rg [oq 1 (.box 0),om 2 (ci 0),om 3 (ci 0),om 4 cz]) (.seq (.block 0 (.seq (rg [oq 10 (.fa 0 1),oq 11 (.load none 10),oq 12 (.len false 11),oq 13 (.bin .int .gtr 12 (ci 4)),om 9 13]) (.cond 9 (.seq (rg [oq 14 (.ifc 1 (ci 4)),om 2 (ci (-1)),om 3 (ci (-1)),om 4 14]) (.ret)) (.seq (rg [oq 16 (.fa 0 1),oq 17 (.load none 16),oq 18 (.len false 17),oq 19 (.bin .int .eql 18 (ci 0)),om 15 19]) (.cond 15 (.seq (rg [oq 20 (.ifc 1 (ci 5)),om 2 (ci (-1)),om 3 (ci (-1)),om 4 20]) (.ret)) (.skip)))))) (.seq (.seq (rg [oq 21 (.fa 0 1),oq 22 (.load none 21),oq 23 (.len false 22),om 24 (ci 0)]) (.loop ⟨[.slot 24 .int],[5,6,7,8,25,26,27,28,29,30,31,32,33,34,35,36,37,38,39,40,41,42,43,44,45,46,50],[6],[]⟩ 1 (.seq (rg [oq 25 (.bin .int .lss 24 23)]) (.seq (.cond 25 (.skip) (.exit 1)) (.seq (.block 2 (.seq (rg [om 26 24,oq 27 (.ia 3 22 24),oq 28 (.load (some 3) 27),oq 6 (.alloc [.string ⟨#[]⟩,.int .i64 0,.slice none 0 0]),om 5 26,on (.store 3 6 28)]) (.seq (rg [oq 30 (.load (some 3) 6),oq 31 (.call false [] 15 [30]),om 29 31,oq 32 (.ext 29 0),oq 33 (.ext 29 1),om 7 32,om 8 33]) (.seq (.seq (.regionJ ⟨[.slot 43 .bool],[34,35,36,37,38,39,40,41,42],[],[]⟩ [om 34 8,oq 35 (.eqn false false 34),om 36 35,og 37 (.fa 0 1) 36 true [],og 38 (.load none 37) 36 true [],og 39 (.mov 5) 36 true [],og 40 (.slc 3 38 none (some 39)) 36 true [],og 41 (.mkfn 39 [6]) 36 true [],og 42 (.call false [] 38 [40,41]) 36 true [],oq 43 (.pick 36 42 (cb false))] [] false) (.condJ ⟨[.slot 8 .err],[44],[],[]⟩ 43 (rg [oq 44 (.ifc 1 (ci 7)),om 8 44]) (.skip))) (.seq (rg [om 45 8,oq 46 (.eqn false true 45)]) (.cond 46 (.seq (rg [om 47 5,om 48 7,om 49 8,om 2 47,om 3 48,om 4 49]) (.ret)) (.skip))))))) (rg [oq 50 (.bin .int .add 24 (ci 1)),om 24 50])))))) (.seq (.seq (rg [oq 51 (.load (some 1) 1),oq 52 (.call false [] 40 [51]),oq 53 (.bin .int .gtr 52 (ci 3000))]) (.cond 53 (.seq (rg [oq 54 (.ifc 1 (ci 4)),om 2 (ci (-1)),om 3 (ci (-1)),om 4 54]) (.ret)) (.skip))) (.seq (rg [om 2 (ci (-1)),om 3 (ci (-1)),om 4 cz]) (.ret))))) 
def tf14:TFunc:=⟨1,55,[.tmp 2,.tmp 3,.tmp 4],false,tc14,[]⟩
def zix (a0:LD) (x1:Int):Option (LR Int (Int×Int×Err)) :=
 br (decide (x1 < (a0.length:Int)))
 (bno (qb a0 x1) fun y2 =>
 bno (F15 y2) fun y3 =>
 jn (σ:=Bool) (α:=(LR Int (Int×Int×Err))) (br (Err.isNil y3.2)
 (ck (decide (0<=(0:Int)∧(0:Int)<=x1∧x1<=(a0.length:Int))) <|
 bno (F38_39 (List.take (Int.toNat x1 - Int.toNat (0:Int)) (List.drop (Int.toNat (0:Int)) a0)) y2) fun y4 =>
 zD (some y4))
 (zD (some false))) fun x5 =>
 jn (σ:=Err) (α:=(LR Int (Int×Int×Err))) (br x5
 (zD (some (Err.no (7:Int))))
 (zD (some y3.2))) fun x6 =>
 br (!(Err.isNil x6))
 (wj (some (x1,y3.1,x6)))
 (nxO (some (wi (x1+(1:Int))))))
 (dnO (some x1))
def S14 (a0:LD):Option (Int×Int×Err) :=
 br (decide ((4:Int) < (a0.length:Int)))
 (some ((-1:Int),(-1:Int),Err.no (4:Int)))
 (br (decide ((a0.length:Int)=(0:Int)))
 (some ((-1:Int),(-1:Int),Err.no (5:Int)))
 (lp (zix F15 F38_39 a0) (0:Int) fun x7 =>
 bno (F40 a0) fun y8 =>
 br (decide ((3000:Int) < y8))
 (some ((-1:Int),(-1:Int),Err.no (4:Int)))
 (some ((-1:Int),(-1:Int),Err.nil))))
def P14:=S14 P15 zgx P40
def k14:CSpec:=⟨14,[(.st .outl)],(.tp [.int,.int,.err]),fun x=>P14 x,false,[]⟩
def r14 {S:Seat} (h:Ok1 S 14 tf14):RtF S [k15,k38_39,k40] (Rt S k14):=okr h rfl fun x=>by kernel_rfl
def tc51:TCode:=.seq (rg [oq 1 (.box 0),om 2 cz]) (.seq (rg [oq 7 (.load (some 1) 1),oq 8 (.call false [] 14 [7]),om 6 8,oq 9 (.ext 6 0),oq 10 (.ext 6 1),oq 11 (.ext 6 2),om 3 9,om 4 10,om 5 11]) (.seq (rg [om 12 5,om 2 12]) (.ret))) 
def tf51:TFunc:=⟨1,13,[.tmp 2],false,tc51,[]⟩
def S51 (a0:LD):Option Err :=
 bno (F14 a0) fun y1 =>
 some y1.2.2
def P51:=S51 P14
def k51:CSpec:=⟨51,[(.st .outl)],.err,fun x=>P51 x,false,[]⟩
def r51 {S:Seat} (h:Ok1 S 51 tf51):RtF S [k14] (Rt S k51):=okr h rfl fun x=>by kernel_rfl
end
end Ab
