/-
  Functions of the program as typed code, what they come to, and their contracts: written by program (mk.py).
-/
import Derived.Test.YtkaifdgeigdbhaaGreatDoorMSe
set_option linter.all false
noncomputable section
namespace Ab
open Go
set_option maxRecDepth 100000
section
variable (F110:LD->LY->LI->(Option (Cell×Err))) (F112:LD->LY->(List Edit)->(Option (LY×Int×Err))) (F382:LD->LY->LI->Int->(Option ((List Edit)×Err))) (F384:Int->Int->(Option (LI×Err))) (F386:Int->LI->(Option (LI×Err))) (F8:Int->(Option Cell))
def iW:TCode:=.seq (rg [oq 9 (.box 3),om 12 (cb false)]) (.seq (rg [oq 31 (.call true [] 384 [(ci 7),(ci 3)]),om 30 31,oq 32 (.ext 30 0),oq 33 (.ext 30 1),om 13 32,om 14 33]) (.seq (.seq (.regionJ ⟨[.slot 52 .bool],[34,35,36,37,38,39,40,41,42,43,44,45,46,47,48,49,50,51],[],[]⟩ [om 34 14,oq 35 (.eqn false true 34),om 36 35,og 37 (.mov 13) 36 false [],og 38 (.len false 37) 36 false [],og 39 (.bin .int .neq 38 (ci 3)) 36 false [],oq 40 (.pick 36 (cb true) 39),om 41 40,og 42 (.mov 13) 41 false [],og 43 (.ia 1 42 (ci 0)) 41 false [],og 44 (.load none 43) 41 false [],og 45 (.bin .int .neq 44 (ci 3)) 41 false [],oq 46 (.pick 41 (cb true) 45),om 47 46,og 48 (.mov 13) 47 false [],og 49 (.ia 1 48 (ci 2)) 47 false [],og 50 (.load none 49) 47 false [],og 51 (.bin .int .neq 50 (ci 2)) 47 false [],oq 52 (.pick 47 (cb true) 51)] [] false) (.cond 52 (.seq (rg [om 12 (cb false)]) (.ret)) (.skip))) (.seq (rg [om 54 0,om 55 1,oq 56 (.call true [] 384 [54,55]),om 53 56,oq 57 (.ext 53 0),oq 58 (.ext 53 1),om 15 57,om 16 58]) (.seq (.seq (rg [om 59 16,oq 60 (.eqn false false 59)]) (.condJ ⟨[],[17,18,61,62,63,64,65,66,67,68,69,70,71,72,73,74,75,76,77,78,79,80,81,82,83,84,85,86,87,88,89,90,91,92,93,94,95,96,97,98,99,100],[],[]⟩ 60 (.seq (rg [om 17 (ci 0)]) (.seq (.seq (rg [om 18 (ci 0)]) (.loop ⟨[.slot 17 .int,.slot 18 .int],[61,62,63,64,65,66,67,68,69,70,71,72,73,74,75,76,77,78,79,80,81,82,83,84,85,86,87,88,89,90,91],[],[]⟩ 0 (.seq (.seq (rg [om 61 18,om 62 15,oq 63 (.len false 62),oq 64 (.bin .int .lss 61 63)]) (.cond 64 (.skip) (.exit 0))) (.seq (.block 1 (.seq (rg [om 67 17,om 68 15,om 69 18,oq 70 (.ia 1 68 69),oq 71 (.load none 70),oq 72 (.bin .int .add 67 71),om 17 72]) (.seq (.regionJ ⟨[.slot 91 .bool],[73,74,75,76,77,78,79,80,81,82,83,84,85,86,87,88,89,90],[],[]⟩ [om 73 15,om 74 18,od 75 (.ia 1 73 74) [0,1],od 76 (.load none 75) [2],om 77 15,od 78 (.ia 1 77 (ci 0)) [4],od 79 (.load none 78) [5],od 80 (.bin .int .gtr 76 79) [3,6],od 81 (.mov 80) [7],og 82 (.mov 15) 81 false [8],og 83 (.ia 1 82 (ci 0)) 81 false [9,8],og 84 (.load none 83) 81 false [10,8],og 85 (.mov 15) 81 false [8],og 86 (.mov 18) 81 false [8],og 87 (.ia 1 85 86) 81 false [12,13,8],og 88 (.load none 87) 81 false [14,8],og 89 (.bin .int .sub 84 88) 81 false [11,15,8],og 90 (.bin .int .gtr 89 (ci 1)) 81 false [16,8],od 91 (.pick 81 (cb true) 90) [8,17]] [] true) (.cond 91 (.seq (rg [om 12 (cb false)]) (.ret)) (.skip))))) (rg [om 65 18,oq 66 (.bin .int .add 65 (ci 1)),om 18 66]))))) (.seq (.regionJ ⟨[.slot 100 .bool],[92,93,94,95,96,97,98,99],[],[]⟩ [om 92 17,om 93 0,oq 94 (.bin .int .neq 92 93),om 95 94,og 96 (.mov 15) 95 false [],og 97 (.len false 96) 95 false [],og 98 (.mov 1) 95 false [],og 99 (.bin .int .neq 97 98) 95 false [],oq 100 (.pick 95 (cb true) 99)] [] false) (.cond 100 (.seq (rg [om 12 (cb false)]) (.ret)) (.skip))))) (.skip))) (.seq (rg [om 102 0,om 103 2,oq 104 (.call true [] 386 [102,103]),om 101 104,oq 105 (.ext 101 0),oq 106 (.ext 101 1),om 15 105,om 16 106]) (.seq (.seq (rg [om 107 16,oq 108 (.eqn false false 107)]) (.condJ ⟨[],[19,20,21,22,23,109,110,111,112,113,114,115,116,117,118,119,120,121,122,123,124,125,126,127,128,129,130,131,132,133,134,135,136,137,138,139,140,141,142,143,144,145,146,147,148,149,150,151,152,153,154,155,156,157,158,159,160,161,162,163,164,165,166,167,168,169,170,171,172,173,174,175],[],[]⟩ 108 (.seq (rg [om 19 (ci 0)]) (.seq (rg [om 20 (ci 0)]) (.seq (.seq (rg [om 109 15,oq 110 (.len false 109),om 111 2,oq 112 (.len false 111),oq 113 (.bin .int .neq 110 112)]) (.cond 113 (.seq (rg [om 12 (cb false)]) (.ret)) (.skip))) (.seq (.seq (rg [om 21 (ci 0)]) (.loop ⟨[.slot 19 .int,.slot 20 .int,.slot 21 .int],[114,115,116,117,118,119,120,121,122,123,124,125,126,127,128,129,130,131],[],[]⟩ 2 (.seq (.seq (rg [om 114 21,om 115 15,oq 116 (.len false 115),oq 117 (.bin .int .lss 114 116)]) (.cond 117 (.skip) (.exit 2))) (.seq (.block 3 (.seq (rg [om 120 19,om 121 15,om 122 21,oq 123 (.ia 1 121 122),oq 124 (.load none 123),oq 125 (.bin .int .add 120 124),om 19 125]) (rg [om 126 20,om 127 2,om 128 21,oq 129 (.ia 1 127 128),oq 130 (.load none 129),oq 131 (.bin .int .add 126 130),om 20 131]))) (rg [om 118 21,oq 119 (.bin .int .add 118 (ci 1)),om 21 119]))))) (.seq (.seq (rg [om 22 (ci 0)]) (.loop ⟨[.slot 22 .int],[23,132,133,134,135,136,137,138,139,140,141,142,143,144,145,146,147,148,149,150,151,152,153,154,155,156,157,158,159,160,161,162,163,164,165,166,167,168,169,170,171,172],[],[]⟩ 4 (.seq (.seq (rg [om 132 22,om 133 15,oq 134 (.len false 133),oq 135 (.bin .int .lss 132 134)]) (.cond 135 (.skip) (.exit 4))) (.seq (.block 5 (.seq (.seq (.regionJ ⟨[.slot 150 .bool],[138,139,140,141,142,143,144,145,146,147,148,149],[],[]⟩ [om 138 15,om 139 22,oq 140 (.ia 1 138 139),oq 141 (.load none 140),oq 142 (.bin .int .lss 141 (ci 0)),om 143 142,og 144 (.mov 15) 143 false [],og 145 (.mov 22) 143 false [],og 146 (.ia 1 144 145) 143 false [],og 147 (.load none 146) 143 false [],og 148 (.mov 0) 143 false [],og 149 (.bin .int .gtr 147 148) 143 false [],oq 150 (.pick 143 (cb true) 149)] [] false) (.cond 150 (.seq (rg [om 12 (cb false)]) (.ret)) (.skip))) (.seq (.region [om 151 15,om 152 22,od 153 (.ia 1 151 152) [0,1],od 154 (.load none 153) [2],om 155 20,od 156 (.bin .int .mul 154 155) [3,4],om 157 0,om 158 2,om 159 22,od 160 (.ia 1 158 159) [7,8],od 161 (.load none 160) [9],od 162 (.bin .int .mul 157 161) [6,10],od 163 (.bin .int .sub 156 162) [5,11],od 23 (.mov 163) [12,0,1,2,3,4,5,6,7,8,9,10,11,12]] [] true) (.seq (.regionJ ⟨[.slot 172 .bool],[164,165,166,167,168,169,170,171],[],[]⟩ [om 164 23,om 165 20,oq 166 (.un .neg 165),oq 167 (.bin .int .leq 164 166),om 168 167,og 169 (.mov 23) 168 false [],og 170 (.mov 20) 168 false [],og 171 (.bin .int .geq 169 170) 168 false [],oq 172 (.pick 168 (cb true) 171)] [] false) (.cond 172 (.seq (rg [om 12 (cb false)]) (.ret)) (.skip)))))) (rg [om 136 22,oq 137 (.bin .int .add 136 (ci 1)),om 22 137]))))) (.seq (rg [om 173 19,om 174 0,oq 175 (.bin .int .neq 173 174)]) (.cond 175 (.seq (rg [om 12 (cb false)]) (.ret)) (.skip)))))))) (.skip))) (.seq (rg [oq 177 (.load (some 1) 9),om 178 4,om 179 5,om 180 0,oq 181 (.call true [] 382 [177,178,179,180]),om 176 181,oq 182 (.ext 176 0),oq 183 (.ext 176 1),om 24 182,om 16 183]) (.seq (.seq (rg [om 184 16,oq 185 (.eqn false true 184)]) (.cond 185 (.seq (rg [om 12 (cb true)]) (.ret)) (.skip))) (.seq (rg [oq 187 (.load (some 1) 9),om 188 4,om 189 24,oq 190 (.call true [] 112 [187,188,189]),om 186 190,oq 191 (.ext 186 0),oq 192 (.ext 186 1),oq 193 (.ext 186 2),om 25 191,om 26 192,om 27 193]) (.seq (rg [oq 195 (.load (some 1) 9),om 196 25,om 197 5,oq 198 (.call false [] 110 [195,196,197]),om 194 198,oq 199 (.ext 194 0),oq 200 (.ext 194 1),oq 28 (.alloc [.int .i64 0,.int .i64 0]),on (.store 2 28 199),om 29 200]) (.seq (.regionJ ⟨[.slot 12 .bool],[201,202,203,204,205,206,207,208,209,210,211,212],[],[]⟩ [om 201 27,od 202 (.eqn false false 201) [0],od 203 (.mov 202) [1],og 204 (.mov 29) 203 true [2],og 205 (.eqn false false 204) 203 true [3,2],od 206 (.pick 203 205 (cb false)) [2,4],od 207 (.mov 206) [5,2],og 208 (.load (some 2) 28) 207 true [6],og 209 (.mov 0) 207 true [6],og 210 (.call false [] 8 [209]) 207 true [8,6,6],og 211 (.eqa false [(0,.int),(1,.int)] 208 210) 207 true [7,9,6],od 212 (.pick 207 211 (cb false)) [6,10],od 12 (.mov 212) [11,9,0,1,2,3,4,5,6,7,8,9,10,11]] [] true) (.ret)))))))))))) 
def iV:TFunc:=⟨6,213,[.tmp 12],false,iW,[]⟩
def zeo (y5:(LI×Err)) (x6:(Int×Int)):Option (LR (Int×Int) (Sum Unit Bool)) :=
 br (decide (x6.2 < (y5.1.length:Int)))
 (bno (zB y5.1 x6.2) fun y7 =>
 jn (σ:=Bool) (α:=(LR (Int×Int) (Sum Unit Bool))) (bno (zB y5.1 x6.2) fun y8 =>
 bno (zB y5.1 (0:Int)) fun y9 =>
 br (decide (y9 < y8))
 (zu (some true))
 (bno (zB y5.1 (0:Int)) fun fj =>
 bno (zB y5.1 x6.2) fun cR =>
 zu (some (decide ((1:Int) < (wi (fj - cR))))))) fun bt =>
 br bt
 (jU (zcy (some false)))
 (nxO (some (wi (x6.1+y7),wi (x6.2+(1:Int))))))
 (dnO (some (x6.1,x6.2)))
def zen (a2:LI) (dk:(LI×Err)) (eg:(Int×Int×Int)):Option (LR (Int×Int×Int) (Sum Unit Bool)) :=
 br (decide (eg.2.2 < (dk.1.length:Int)))
 (bno (zB dk.1 eg.2.2) fun y18 =>
 bno (zB a2 eg.2.2) fun y19 =>
 nxO (some (wi (eg.1+y18),wi (eg.2.1+y19),wi (eg.2.2+(1:Int)))))
 (dnO (some (eg.1,eg.2.1,eg.2.2)))
def zem (a0:Int) (a2:LI) (dk:(LI×Err)) (eV:(Int×Int×Int)) (gr:Int):Option (LR Int (Sum Unit Bool)) :=
 br (decide (gr < (dk.1.length:Int)))
 (jn (σ:=Bool) (α:=(LR Int (Sum Unit Bool))) (bno (zB dk.1 gr) fun pF =>
 br (decide (pF < (0:Int)))
 (zu (some true))
 (bno (zB dk.1 gr) fun pE =>
 zu (some (decide (a0 < pE))))) fun mL =>
 br mL
 (jU (zcy (some false)))
 (bno (zB dk.1 gr) fun pD =>
 bno (zB a2 gr) fun pC =>
 jn (σ:=Bool) (α:=(LR Int (Sum Unit Bool))) (br (decide ((wi ((wi (pD * eV.2.1)) - (wi (a0 * pC))))<=(wi (0 - eV.2.1))))
 (zu (some true))
 (zu (some (decide (eV.2.1<=(wi ((wi (pD * eV.2.1)) - (wi (a0 * pC))))))))) fun x27 =>
 br x27
 (jU (zcy (some false)))
 (nxO (some (wi (gr+(1:Int)))))))
 (dnO (some gr))
def S375 (a0:Int) (a1:Int) (a2:LI) (a3:LD) (a4:LY) (a5:LI):Option Bool :=
 bno (F384 (7:Int) (3:Int)) fun y1 =>
 jn (σ:=Bool) (α:=Bool) (br (!(Err.isNil y1.2))
 (zu (some true))
 (br (decide (¬ (y1.1.length:Int)=(3:Int)))
 (zu (some true))
 (bno (zB y1.1 (0:Int)) fun y2 =>
 br (decide (¬ y2=(3:Int)))
 (zu (some true))
 (bno (zB y1.1 (2:Int)) fun y3 =>
 zu (some (decide (¬ y3=(2:Int)))))))) fun x4 =>
 br x4
 (some false)
 (bno (F384 a0 a1) fun y5 =>
 jn (σ:=Unit) (α:=Bool) (br (Err.isNil y5.2)
 (lp (zeo y5) ((0:Int),(0:Int)) fun bk =>
 jn (σ:=Bool) (α:=(Sum Unit Bool)) (br (decide (¬ bk.1=a0))
 (zu (some true))
 (zu (some (decide (¬ (y5.1.length:Int)=a1))))) fun iu =>
 br iu
 (zcy (some false))
 (zu (some ())))
 (zu (some ()))) fun iT =>
 bno (F386 a0 a2) fun dk =>
 jn (σ:=Unit) (α:=Bool) (br (Err.isNil dk.2)
 (br (decide (¬ (dk.1.length:Int)=(a2.length:Int)))
 (zcy (some false))
 (lp (zen a2 dk) ((0:Int),(0:Int),(0:Int)) fun eV =>
 lp (zem a0 a2 dk eV) (0:Int) fun x28 =>
 br (decide (¬ eV.1=a0))
 (zcy (some false))
 (zu (some ()))))
 (zu (some ()))) fun x29 =>
 bno (F382 a3 a4 a5 a0) fun pB =>
 br (!(Err.isNil pB.2))
 (some true)
 (bno (F112 a3 a4 pB.1) fun pA =>
 bno (F110 a3 pA.1 a5) fun mF =>
 jn (σ:=Bool) (α:=Bool) (br (Err.isNil pA.2.2)
 (br (Err.isNil mF.2)
 (bno (F8 a0) fun fC =>
 zu (some (decide ((Cell.k mF.1)=(Cell.k fC)) && (decide ((Cell.n mF.1)=(Cell.n fC)) && true))))
 (zu (some false)))
 (zu (some false))) fun iS =>
 some iS))
def P375:=S375 P110 P112 P382 P384 P386 P8
def kk:CSpec:=⟨375,[.int,.int,(.sl .int),(.st .outl),(.sl .entry),(.sl .int)],.bool,fun x=>P375 x.1 x.2.1 x.2.2.1 x.2.2.2.1 x.2.2.2.2.1 x.2.2.2.2.2,false,[]⟩
def mQ {S:Seat} (h:Ok1 S 375 iV):RtF S [k110,k112,k382,k384,k386,k8] (Rt S kk):=okr h rfl fun x=>by kernel_rfl
end
end Ab
