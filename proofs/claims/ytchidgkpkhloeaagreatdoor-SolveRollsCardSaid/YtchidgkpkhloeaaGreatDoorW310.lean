/-
  Functions of the program as typed code, what they come to, and their contracts: written by program (mk.py).
-/
import Derived.Test.YtchidgkpkhloeaaGreatDoorH7
import Derived.Test.YtchidgkpkhloeaaGreatDoorHJ
set_option linter.unusedVariables false
noncomputable section
namespace Ab
open Go
set_option maxRecDepth 100000
section
variable (F110:LD->LY->LI->(Option (Cell×Err))) (F330:LD->LY->LI->(Option (Cell×Err)))
def tc310:TCode:=.seq (rg [oq 4 (.box 0),om 8 (cb false)]) (.seq (.region [oq 21 (.build [.string ⟨#[]⟩,.int .i64 0,.int .i64 0,.string ⟨#[]⟩] [(0,1,(cs ⟨#[98]⟩)),(1,1,(ci (-1))),(3,1,(cs ⟨#[99,42,50]⟩))]),oq 22 (.build [.string ⟨#[]⟩,.int .i64 0,.int .i64 0,.string ⟨#[]⟩] [(0,1,(cs ⟨#[99]⟩)),(1,1,(ci (-1)))]),oq 23 (.bslice false 4 [.string ⟨#[]⟩,.int .i64 0,.int .i64 0,.string ⟨#[]⟩] 2 [(0,21),(1,22)]),oq 24 (.build [.string ⟨#[]⟩,.int .i64 0,.slice none 0 0] [(0,1,(cs ⟨#[97]⟩)),(2,1,23)]),oq 25 (.bslice true 3 [.string ⟨#[]⟩,.int .i64 0,.slice none 0 0] 1 [(0,24)]),oq 26 (.build [.slice none 0 0] [(0,1,25)]),oq 9 (.alloc [.slice none 0 0]),on (.store 1 9 26)] [.int,.int,.member,.int,.dim] false) (.seq (.region [oq 28 (.load (some 1) 9),oq 29 (.bslice false 1 [.int .i64 0] 1 [(0,(ci 1))]),oq 30 (.build [.slice none 0 0,.int .i64 0] [(0,1,29),(1,1,(ci 7))]),oq 31 (.bslice true 2 [.slice none 0 0,.int .i64 0] 1 [(0,30)]),oq 32 (.bslice false 1 [.int .i64 0] 1 [(0,(ci 0))]),oq 33 (.call false [] 330 [28,31,32]),om 27 33,oq 34 (.ext 27 0),oq 35 (.ext 27 1),oq 10 (.alloc [.int .i64 0,.int .i64 0]),on (.store 2 10 34),om 11 35] [.int,.int,.int,.entry] false) (.seq (.seq (.regionJ ⟨[.slot 47 .bool],[36,37,38,39,40,41,42,43,44,45,46],[],[]⟩ [om 36 11,oq 37 (.eqn false true 36),om 38 37,og 39 (.fa 0 10) 38 false [],og 40 (.load none 39) 38 false [],og 41 (.bin .int .neq 40 (ci 1)) 38 false [],oq 42 (.pick 38 (cb true) 41),om 43 42,og 44 (.fa 1 10) 43 false [],og 45 (.load none 44) 43 false [],og 46 (.bin .int .neq 45 (ci 14)) 43 false [],oq 47 (.pick 43 (cb true) 46)] [] false) (.cond 47 (.seq (rg [om 8 (cb false)]) (.ret)) (.skip))) (.seq (rg [oq 12 (.alloc [.slice none 0 0])]) (.seq (.seq (rg [om 13 (ci 0)]) (.loop ⟨[.slot 13 .int,.var 12 [.row 112 .dim]],[14,15,16,48,49,50,51,52,53,54,55,56,57,58,59,60,61,62,63,64,65,66,67,68,69,70,71,72,73,74,75,76,77,78,79,80,81,82,83,84,85,86,87,88,89,90,91,92,93,94,95,96,97,98,99,100,101,102,103,104,105,106,107,108,109,110,111,112,113],[14,16,105,106,111],[]⟩ 0 (.seq (.seq (.regionJ ⟨[.slot 56 .bool],[48,49,50,51,52,53,54,55],[],[]⟩ [om 48 13,oq 49 (.fa 0 4),oq 50 (.load none 49),oq 51 (.len false 50),oq 52 (.bin .int .lss 48 51),om 53 52,og 54 (.mov 13) 53 true [],og 55 (.bin .int .lss 54 (ci 10)) 53 true [],oq 56 (.pick 53 55 (cb false))] [] false) (.cond 56 (.skip) (.exit 0))) (.seq (.block 1 (.seq (.region [oq 59 (.fa 0 4),od 60 (.load none 59) [0],om 61 13,od 62 (.ia 3 60 61) [1,2],od 63 (.fa 0 62) [3],od 64 (.load none 63) [4],oq 65 (.fa 0 4),od 66 (.load none 65) [6],om 67 13,od 68 (.ia 3 66 67) [7,8],od 69 (.fa 1 68) [9],od 70 (.load none 69) [10],od 71 (.build [.string ⟨#[]⟩,.int .i64 0,.slice none 0 0] [(0,1,64),(1,1,70)]) [5,11],oq 14 (.alloc [.string ⟨#[]⟩,.int .i64 0,.slice none 0 0]),⟨none,.store 3 14 71,none,[13,12,0,1,2,3,4,5,6,7,8,9,10,11,12,13]⟩] [] true) (.seq (.seq (rg [om 72 13,om 73 3,oq 74 (.len false 73),oq 75 (.bin .int .lss 72 74)]) (.condJ ⟨[.var 14 [.sh .str,.sh .int,.row 106 .member]],[76,77,78,79,80],[],[]⟩ 75 (rg [om 76 3,om 77 13,oq 78 (.ia 1 76 77),oq 79 (.load none 78),oq 80 (.fa 1 14),on (.store 1 80 79)]) (.skip))) (.seq (.seq (rg [om 15 (ci 0)]) (.loop ⟨[.slot 15 .int,.var 14 [.sh .str,.sh .int,.row 106 .member]],[16,81,82,83,84,85,86,87,88,89,90,91,92,93,94,95,96,97,98,99,100,101,102,103,104,105,106,107],[16,105],[]⟩ 2 (.seq (.seq (rg [om 81 15,oq 82 (.fa 0 4),oq 83 (.load none 82),om 84 13,oq 85 (.ia 3 83 84),oq 86 (.fa 2 85),oq 87 (.load none 86),oq 88 (.len false 87),oq 89 (.bin .int .lss 81 88)]) (.cond 89 (.skip) (.exit 2))) (.seq (.block 3 (.seq (rg [oq 92 (.fa 0 4),oq 93 (.load none 92),om 94 13,oq 95 (.ia 3 93 94),oq 96 (.fa 2 95),oq 97 (.load none 96),om 98 15,oq 99 (.ia 4 97 98),oq 100 (.load (some 4) 99),oq 16 (.alloc [.string ⟨#[]⟩,.int .i64 0,.int .i64 0,.string ⟨#[]⟩]),on (.store 4 16 100)]) (.seq (rg [oq 101 (.fa 3 16),on (.store 1 101 (cs ⟨#[]⟩))]) (.region [oq 102 (.fa 2 14),oq 103 (.load none 102),oq 104 (.load (some 4) 16),oq 105 (.bslice false 4 [.string ⟨#[]⟩,.int .i64 0,.int .i64 0,.string ⟨#[]⟩] 1 [(0,104)]),oq 106 (.app 4 103 105),oq 107 (.fa 2 14),on (.store 1 107 106)] [.int,.int,.int,.member,.member] false)))) (rg [om 90 15,oq 91 (.bin .int .add 90 (ci 1)),om 15 91]))))) (.region [oq 108 (.fa 0 12),oq 109 (.load none 108),oq 110 (.load (some 3) 14),oq 111 (.bslice true 3 [.string ⟨#[]⟩,.int .i64 0,.slice none 0 0] 1 [(0,110)]),oq 112 (.app 3 109 111),oq 113 (.fa 0 12),on (.store 1 113 112)] [.int,.int,.int,.dim,.dim] false))))) (rg [om 57 13,oq 58 (.bin .int .add 57 (ci 1)),om 13 58]))))) (.seq (rg [oq 115 (.load (some 1) 12),om 116 1,om 117 2,oq 118 (.call false [] 330 [115,116,117]),om 114 118,oq 119 (.ext 114 0),oq 120 (.ext 114 1),oq 17 (.alloc [.int .i64 0,.int .i64 0]),on (.store 2 17 119),om 18 120]) (.seq (.seq (rg [om 121 18,oq 122 (.eqn false true 121)]) (.cond 122 (.seq (rg [om 8 (cb true)]) (.ret)) (.skip))) (.seq (rg [oq 124 (.load (some 1) 12),om 125 1,om 126 2,oq 127 (.call false [] 110 [124,125,126]),om 123 127,oq 128 (.ext 123 0),oq 129 (.ext 123 1),oq 19 (.alloc [.int .i64 0,.int .i64 0]),on (.store 2 19 128),om 20 129]) (.seq (.regionJ ⟨[.slot 8 .bool],[130,131,132,133,134,135,136],[],[]⟩ [om 130 20,oq 131 (.eqn false false 130),om 132 131,og 133 (.load (some 2) 17) 132 true [],og 134 (.load (some 2) 19) 132 true [],og 135 (.eqa false [(0,.int),(1,.int)] 133 134) 132 true [],oq 136 (.pick 132 135 (cb false)),om 8 136] [] false) (.ret)))))))))) 
def tf310:TFunc:=⟨4,137,[.tmp 8],false,tc310,[]⟩
def zdf (a0:LD) (x3:(Int×LD)) (x9:(Int×(ByteArray×Int×LM))):Option (LR (Int×(ByteArray×Int×LM)) (LR (Int×LD) Bool)) :=
 bno (zx a0 x3.1) fun y10 =>
 br (decide (x9.1 < ((List.length (Dim.members y10):Nat):Int)))
 (bno (zx a0 x3.1) fun y11 =>
 bno (zx (Dim.members y11) x9.1) fun y12 =>
 ck (decide (List.length x9.2.2.2+List.length ([Member.mk (Member.name y12) (Member.parent y12) (Member.sign y12) (⟨#[]⟩:ByteArray)]:List Member)<=roomA)) <|
 nxO (some (wi (x9.1+(1:Int)),(x9.2.1,x9.2.2.1,x9.2.2.2++([Member.mk (Member.name y12) (Member.parent y12) (Member.sign y12) (⟨#[]⟩:ByteArray)]:List Member)))))
 (dnO (some (x9.1,(x9.2.1,x9.2.2.1,x9.2.2.2))))
def zde (a0:LD) (a3:LI) (x3:(Int×LD)):Option (LR (Int×LD) Bool) :=
 jn (σ:=Bool) (α:=(LR (Int×(List Dim)) Bool)) (br (decide (x3.1 < ((List.length a0:Nat):Int)))
 (zD (some (decide (x3.1 < (10:Int)))))
 (zD (some false))) fun x4 =>
 br x4
 (bno (zx a0 x3.1) fun y5 =>
 bno (zx a0 x3.1) fun y6 =>
 jn (σ:=(ByteArray×Int×(List Member))) (α:=(LR (Int×(List Dim)) Bool)) (br (decide (x3.1 < ((List.length a3:Nat):Int)))
 (bno (zx a3 x3.1) fun y7 =>
 zD (some (Dim.name y5,y7,([]:List Member))))
 (zD (some (Dim.name y5,Dim.solve y6,([]:List Member))))) fun x8 =>
 lp (zdf a0 x3) ((0:Int),(x8.1,x8.2.1,x8.2.2)) fun x13 =>
 ck (decide (List.length x3.2+List.length ([Dim.mk x13.2.1 x13.2.2.1 x13.2.2.2]:List Dim)<=roomA)) <|
 nxO (some (wi (x3.1+(1:Int)),x3.2++([Dim.mk x13.2.1 x13.2.2.1 x13.2.2.2]:List Dim))))
 (dnO (some (x3.1,x3.2)))
def S310 (a0:LD) (a1:LY) (a2:LI) (a3:LI):Option Bool :=
 bno (F330 ([Dim.mk (⟨#[97]⟩:ByteArray) (0:Int) ([Member.mk (⟨#[98]⟩:ByteArray) (-1:Int) (0:Int) (⟨#[99,42,50]⟩:ByteArray),Member.mk (⟨#[99]⟩:ByteArray) (-1:Int) (0:Int) (⟨#[]⟩:ByteArray)]:List Member)]:List Dim) ([Entry.mk ([(1:Int)]:List Int) (7:Int)]:List Entry) ([(0:Int)]:List Int)) fun y1 =>
 jn (σ:=Bool) (α:=Bool) (br (!(Err.isNil y1.2))
 (zD (some true))
 (br (decide (¬ (Cell.k y1.1)=(1:Int)))
 (zD (some true))
 (zD (some (decide (¬ (Cell.n y1.1)=(14:Int))))))) fun x2 =>
 br x2
 (some false)
 (lp (zde a0 a3) ((0:Int),([]:List Dim)) fun x14 =>
 bno (F330 x14.2 a1 a2) fun y15 =>
 br (!(Err.isNil y15.2))
 (some true)
 (bno (F110 x14.2 a1 a2) fun y16 =>
 jn (σ:=Bool) (α:=Bool) (br (Err.isNil y16.2)
 (zD (some (decide ((Cell.k y15.1)=(Cell.k y16.1)) && (decide ((Cell.n y15.1)=(Cell.n y16.1)) && true))))
 (zD (some false))) fun x17 =>
 some x17))
def P310:=S310 P110 P330
def k310:CSpec:=⟨310,[(.st .outl),(.sl .entry),(.sl .int),(.sl .int)],.bool,fun x=>P310 x.1 x.2.1 x.2.2.1 x.2.2.2,false,[]⟩
theorem r310 {S:Seat} (h:Ok1 S 310 tf310):RtF S [k110,k330] (Rt S k310):=okr h rfl fun x=>by kernel_rfl
end
end Ab
