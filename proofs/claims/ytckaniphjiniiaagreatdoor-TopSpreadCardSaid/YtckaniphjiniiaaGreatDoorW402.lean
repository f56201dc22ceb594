/-
  Functions of the program as typed code, what they come to, and their contracts: written by program (mk.py).
-/
import Derived.Test.YtckaniphjiniiaaGreatDoorJ1
import Derived.Test.YtckaniphjiniiaaGreatDoorMSe
set_option linter.all false
noncomputable section
namespace Ab
open Go
set_option maxRecDepth 100000
section
variable (F112:LD->LY->(List Edit)->(Option (LY×Int×Err))) (F332:LD->LY->(Option (LC×Err))) (F377:LD->LY->LI->Int->Int->(Option (Grid×Err))) (F382:LD->LY->LI->Int->(Option ((List Edit)×Err))) (F401:(Option Bool)) (F8:Int->(Option Cell))
def tc401:TCode:=.seq (rg [om 0 (cb false)]) (.seq (.region [oq 4 (.build [.string ⟨#[]⟩,.int .i64 0,.int .i64 0,.string ⟨#[]⟩] [(0,1,(cs ⟨#[98]⟩)),(1,1,(ci (-1)))]),oq 5 (.build [.string ⟨#[]⟩,.int .i64 0,.int .i64 0,.string ⟨#[]⟩] [(0,1,(cs ⟨#[99]⟩)),(1,1,(ci 0)),(2,1,(ci 1))]),oq 6 (.bslice false 4 [.string ⟨#[]⟩,.int .i64 0,.int .i64 0,.string ⟨#[]⟩] 2 [(0,4),(1,5)]),oq 7 (.build [.string ⟨#[]⟩,.int .i64 0,.slice none 0 0] [(0,1,(cs ⟨#[97]⟩)),(2,1,6)]),oq 8 (.bslice true 3 [.string ⟨#[]⟩,.int .i64 0,.slice none 0 0] 1 [(0,7)]),oq 9 (.build [.slice none 0 0] [(0,1,8)]),oq 1 (.alloc [.slice none 0 0]),on (.store 1 1 9)] [.int,.int,.member,.int,.dim] false) (.seq (.region [oq 11 (.load (some 1) 1),oq 12 (.bslice false 1 [.int .i64 0] 1 [(0,(ci 1))]),oq 13 (.build [.slice none 0 0,.int .i64 0] [(0,1,12),(1,1,(ci 7))]),oq 14 (.bslice true 2 [.slice none 0 0,.int .i64 0] 1 [(0,13)]),oq 15 (.call true [] 332 [11,14]),om 10 15,oq 16 (.ext 10 0),oq 17 (.ext 10 1),om 2 16,om 3 17] [.int,.int,.int,.entry] false) (.seq (.regionJ ⟨[.slot 0 .bool],[18,19,20,21,22,23,24,25,26,27,28,29,30,31],[],[]⟩ [om 18 3,od 19 (.eqn false false 18) [0],od 20 (.mov 19) [1],og 21 (.mov 2) 20 true [2],og 22 (Ln 21) 20 true [3,2],og 23 (Bi .eql 22 (ci 2)) 20 true [4,2],od 24 (.pick 20 23 (cb false)) [2,5],od 25 (.mov 24) [6,2],og 26 (.mov 2) 25 true [7],og 27 (.ia 2 26 (ci 0)) 25 true [8,7],og 28 (.load (some 2) 27) 25 true [9,7],og 29 (Cl 8 [(ci 7)]) 25 true [7,7],og 30 (.eqa false [(0,.int),(1,.int)] 28 29) 25 true [10,11,7],od 31 (.pick 25 30 (cb false)) [7,12],od 0 (.mov 31) [13,11,0,1,2,3,4,5,6,7,8,9,10,11,12,13]] [] true) .ret))) 
def tf401:TFunc:=⟨0,32,[.tmp 0],false,tc401,[]⟩
def S401:Option Bool :=
 bno (F332 ([Dim.mk (⟨#[97]⟩:ByteArray) (0:Int) ([Member.mk (⟨#[98]⟩:ByteArray) (-1:Int) (0:Int) (⟨#[]⟩:ByteArray),Member.mk (⟨#[99]⟩:ByteArray) (0:Int) (1:Int) (⟨#[]⟩:ByteArray)]:List Member)]:List Dim) ([Entry.mk ([(1:Int)]:List Int) (7:Int)]:List Entry)) fun y1 =>
 jn (σ:=Bool) (α:=Bool) (br (Err.isNil y1.2)
 (br (decide ((y1.1.length:Int)=(2:Int)))
 (bno (zu y1.1 (0:Int)) fun y2 =>
 bno (F8 (7:Int)) fun y3 =>
 zt (some (decide ((Cell.k y2)=(Cell.k y3)) && (decide ((Cell.n y2)=(Cell.n y3)) && true))))
 (zt (some false)))
 (zt (some false))) fun x4 =>
 some x4
def P401:Option Bool:=S401 P332 P8
def k401:CSpec:=⟨401,[],.bool,fun _=>P401,false,[]⟩
def r401 {S:Seat} (h:Ok1 S 401 tf401):RtF S [k332,k8] (Rt S k401):=okr h
def tc402:TCode:=.seq (rg [oq 6 (.box 0),om 12 (cb false)]) (.seq (rg [oq 24 (Cl 401 []),om 13 24]) (.seq (.seq (rg [om 25 13,oq 26 (.un .not 25)]) (.cond 26 (.seq (rg [om 12 (cb false)]) .ret) .skip)) (.seq (.seq (rg [om 14 (ci 0)]) (.loop ⟨[.slot 14 .int],[15,27,28,29,30,31,32,33,34,35,36,37,38,39,40,41,42,43,44,45,46,47,48,49,50,51,52,53,54,55],[],[]⟩ 0 (.seq (.seq (rg [om 27 14,oq 28 (.fa 0 6),oq 29 (Ld 28),oq 30 (Ln 29),oq 31 (Bi .lss 27 30)]) (.cond 31 .skip (.exit 0))) (.seq (.block 1 (.seq (rg [om 15 (ci 0)]) (.loop ⟨[.slot 15 .int],[34,35,36,37,38,39,40,41,42,43,44,45,46,47,48,49,50,51,52,53,54,55],[],[]⟩ 2 (.seq (.seq (rg [om 34 15,oq 35 (.fa 0 6),oq 36 (Ld 35),om 37 14,oq 38 (.ia 3 36 37),oq 39 (.fa 2 38),oq 40 (Ld 39),oq 41 (Ln 40),oq 42 (Bi .lss 34 41)]) (.cond 42 .skip (.exit 2))) (.seq (.block 3 (.seq (rg [oq 45 (.fa 0 6),oq 46 (Ld 45),om 47 14,oq 48 (.ia 3 46 47),oq 49 (.fa 2 48),oq 50 (Ld 49),om 51 15,oq 52 (.ia 4 50 51),oq 53 (.fa 3 52),oq 54 (Ld 53),oq 55 (.bin .str .neq 54 (cs ⟨#[]⟩))]) (.cond 55 (.seq (rg [om 12 (cb true)]) .ret) .skip))) (rg [om 43 15,oq 44 (Bi .add 43 (ci 1)),om 15 44])))))) (rg [om 32 14,oq 33 (Bi .add 32 (ci 1)),om 14 33]))))) (.seq (rg [oq 57 (.load (some 1) 6),om 58 1,om 59 2,om 60 3,oq 61 (.call true [] 382 [57,58,59,60]),om 56 61,oq 62 (.ext 56 0),oq 63 (.ext 56 1),om 16 62,om 17 63]) (.seq (.seq (rg [om 64 17,oq 65 (.eqn false true 64)]) (.cond 65 (.seq (rg [om 12 (cb true)]) .ret) .skip)) (.seq (rg [oq 67 (.load (some 1) 6),om 68 1,om 69 16,oq 70 (.call true [] 112 [67,68,69]),om 66 70,oq 71 (.ext 66 0),oq 72 (.ext 66 1),oq 73 (.ext 66 2),om 18 71,om 19 72,om 20 73]) (.seq (.seq (rg [om 74 20,oq 75 (.eqn false true 74)]) (.cond 75 (.seq (rg [om 12 (cb false)]) .ret) .skip)) (.seq (rg [oq 77 (.load (some 1) 6),om 78 18,om 79 2,om 80 4,om 81 5,oq 82 (.call true [] 377 [77,78,79,80,81]),om 76 82,oq 83 (.ext 76 0),oq 84 (.ext 76 1),oq 21 (.alloc [.slice none 0 0,.slice none 0 0,.slice none 0 0]),on (.store 3 21 83),om 20 84]) (.seq (.seq (rg [om 85 20,oq 86 (.eqn false true 85)]) (.cond 86 (.seq (.regionJ ⟨[.slot 12 .bool],[87,88,89,90,91,92,93,94,95,96,97,98,99,100,101,102,103,104,105,106,107,108,109],[],[]⟩ [om 87 4,oq 88 (Bi .lss 87 (ci 0)),om 89 88,og 90 (.mov 4) 89 false [],og 91 (.mov 2) 89 false [],og 92 (Ln 91) 89 false [],og 93 (Bi .geq 90 92) 89 false [],oq 94 (.pick 89 (cb true) 93),om 95 94,og 96 (.mov 5) 95 false [],og 97 (Bi .lss 96 (ci 0)) 95 false [],oq 98 (.pick 95 (cb true) 97),om 99 98,og 100 (.mov 5) 99 false [],og 101 (.mov 2) 99 false [],og 102 (Ln 101) 99 false [],og 103 (Bi .geq 100 102) 99 false [],oq 104 (.pick 99 (cb true) 103),om 105 104,og 106 (.mov 4) 105 false [],og 107 (.mov 5) 105 false [],og 108 (Bi .eql 106 107) 105 false [],oq 109 (.pick 105 (cb true) 108),om 12 109] [] false) .ret) .skip)) (.seq (rg [om 110 2,om 111 4,oq 112 (.ia 1 110 111),oq 113 (Ld 112),om 22 113]) (.seq (rg [om 114 2,om 115 5,oq 116 (.ia 1 114 115),oq 117 (Ld 116),om 23 117]) (.seq (.regionJ ⟨[.slot 12 .bool],[118,119,120,121,122,123,124,125,126,127,128,129,130,131,132,133,134,135,136,137,138,139,140,141,142,143,144,145,146,147,148,149,150,151,152,153],[],[]⟩ [om 118 22,od 119 (Bi .geq 118 (ci 0)) [0],od 120 (.mov 119) [1],og 121 (.mov 22) 120 true [2],og 122 (.fa 2 21) 120 true [2],og 123 (Ld 122) 120 true [4,2],og 124 (Ln 123) 120 true [5,2],og 125 (Bi .lss 121 124) 120 true [3,6,2],od 126 (.pick 120 125 (cb false)) [2,7],od 127 (.mov 126) [8,2],og 128 (.mov 23) 127 true [9],og 129 (Bi .geq 128 (ci 0)) 127 true [10,9],od 130 (.pick 127 129 (cb false)) [9,11],od 131 (.mov 130) [12,9],og 132 (.mov 23) 131 true [13],og 133 (.fa 2 21) 131 true [13],og 134 (Ld 133) 131 true [15,13],og 135 (.mov 22) 131 true [13],og 136 (.ia 1 134 135) 131 true [16,17,13],og 137 (Ld 136) 131 true [18,13],og 138 (Ln 137) 131 true [19,13],og 139 (Bi .lss 132 138) 131 true [14,20,13],od 140 (.pick 131 139 (cb false)) [13,21],od 141 (.mov 140) [22,13],og 142 (.fa 2 21) 141 true [23],og 143 (Ld 142) 141 true [24,23],og 144 (.mov 22) 141 true [23],og 145 (.ia 1 143 144) 141 true [25,26,23],og 146 (Ld 145) 141 true [27,23],og 147 (.mov 23) 141 true [23],og 148 (.ia 2 146 147) 141 true [28,29,23],og 149 (.load (some 2) 148) 141 true [30,23],og 150 (.mov 3) 141 true [23],og 151 (Cl 8 [150]) 141 true [32,23,23],og 152 (.eqa false [(0,.int),(1,.int)] 149 151) 141 true [31,33,23],od 153 (.pick 141 152 (cb false)) [23,34],od 12 (.mov 153) [35,33,0,1,2,3,4,5,6,7,8,9,10,11,12,13,14,15,16,17,18,19,20,21,22,23,24,25,26,27,28,29,30,31,32,33,34,35]] [] true) .ret)))))))))))) 
def tf402:TFunc:=⟨6,154,[.tmp 12],false,tc402,[]⟩
def zfg (a0:LD) (x2:Int) (x3:Int):Option (LR Int (LR Int Bool)) :=
 bno (zu a0 x2) fun y4 =>
 br (decide (x3<((Dim.members y4).length:Int)))
 (bno (zu a0 x2) fun y5 =>
 bno (zu (Dim.members y5) x3) fun y6 =>
 br (decide (¬(Member.formula y6)=(⟨#[]⟩:ByteArray)))
 (yk (yk (some true)))
 (nxO (some (wi (x3+(1:Int))))))
 (dnO (some x3))
def zcU (a0:LD) (x2:Int):Option (LR Int Bool) :=
 br (decide (x2<(a0.length:Int)))
 (lp (zfg a0 x2) (0:Int) fun x7 =>
 nxO (some (wi (x2+(1:Int)))))
 (dnO (some x2))
def S402 (a0:LD) (a1:LY) (a2:LI) (a3:Int) (a4:Int) (a5:Int):Option Bool :=
 bno F401 fun y1 =>
 br (!y1)
 (some false)
 (lp (zcU a0) (0:Int) fun x8 =>
 bno (F382 a0 a1 a2 a3) fun y9 =>
 br (!(Err.isNil y9.2))
 (some true)
 (bno (F112 a0 a1 y9.1) fun db =>
 br (!(Err.isNil db.2.2))
 (some false)
 (bno (F377 a0 db.1 a2 a4 a5) fun cA =>
 br (!(Err.isNil cA.2))
 (jn (σ:=Bool) (α:=Bool) (br (decide (a4<(0:Int)))
 (zt (some true))
 (br (decide ((a2.length:Int)<=a4))
 (zt (some true))
 (br (decide (a5<(0:Int)))
 (zt (some true))
 (br (decide ((a2.length:Int)<=a5))
 (zt (some true))
 (zt (some (decide (a4=a5)))))))) fun bC =>
 some bC)
 (bno (zu a2 a4) fun cj =>
 bno (zu a2 a5) fun cM =>
 jn (σ:=Bool) (α:=Bool) (br (decide ((0:Int)<=cj))
 (br (decide (cj<((Grid.cells cA.1).length:Int)))
 (br (decide ((0:Int)<=cM))
 (bno (zu (Grid.cells cA.1) cj) fun fq =>
 br (decide (cM<(fq.length:Int)))
 (bno (zu (Grid.cells cA.1) cj) fun lI =>
 bno (zu lI cM) fun kL =>
 bno (F8 a3) fun oC =>
 zt (some (decide ((Cell.k kL)=(Cell.k oC)) && (decide ((Cell.n kL)=(Cell.n oC)) && true))))
 (zt (some false)))
 (zt (some false)))
 (zt (some false)))
 (zt (some false))) fun bF =>
 some bF))))
def P402:=S402 P112 P377 P382 P401 P8
def k402:CSpec:=⟨402,[(.st .outl),(.sl .entry),(.sl .int),.int,.int,.int],.bool,fun x=>P402 x.1 x.2.1 x.2.2.1 x.2.2.2.1 x.2.2.2.2.1 x.2.2.2.2.2,false,[]⟩
def r402 {S:Seat} (h:Ok1 S 402 tf402):RtF S [k112,k377,k382,k401,k8] (Rt S k402):=okr h
end
end Ab
