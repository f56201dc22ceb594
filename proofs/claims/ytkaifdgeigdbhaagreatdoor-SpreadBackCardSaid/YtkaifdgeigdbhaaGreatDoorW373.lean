/-
  Functions of the program as typed code, what they come to, and their contracts: written by program (mk.py).
-/
import Derived.Test.YtkaifdgeigdbhaaGreatDoorMSe
set_option linter.all false
noncomputable section
namespace Ab
open Go
set_option maxRecDepth 100000
section
variable (F382:LD->LY->LI->Int->(Option ((List Edit)×Err))) (F50:ByteArray->Int->(Option Dim))
def gX:TCode:=.seq (rg [om 4 (cb false)]) (.seq (.seq (.regionJ ⟨[.slot 18 .bool],[13,14,15,16,17],[],[]⟩ [om 13 0,oq 14 (.bin .int .lss 13 (ci 1)),om 15 14,og 16 (.mov 0) 15 false [],og 17 (.bin .int .gtr 16 (ci 9)) 15 false [],oq 18 (.pick 15 (cb true) 17)] [] false) (.cond 18 (.seq (rg [om 4 (cb true)]) (.ret)) (.skip))) (.seq (.region [om 19 0,oq 20 (.call true [] 50 [(cs ⟨#[120]⟩),19]),oq 21 (.bslice true 3 [.string ⟨#[]⟩,.int .i64 0,.slice none 0 0] 1 [(0,20)]),oq 22 (.build [.slice none 0 0] [(0,1,21)]),oq 5 (.alloc [.slice none 0 0]),on (.store 1 5 22)] [.int,.int,.dim] false) (.seq (rg [om 6 cn]) (.seq (rg [om 7 (ci 0)]) (.seq (.seq (rg [om 8 (ci 0)]) (.loop ⟨[.row 6 49 .entry,.slot 7 .int,.slot 8 .int],[9,23,24,25,26,27,28,29,30,31,32,33,34,35,36,37,38,39,40,41,42,43,44,45,46,47,48,49,50,51,52],[45,48],[]⟩ 0 (.seq (.seq (rg [om 23 8,om 24 0,oq 25 (.bin .int .lss 23 24)]) (.cond 25 (.skip) (.exit 0))) (.seq (.block 1 (.seq (rg [om 9 (ci 0)]) (.seq (.seq (rg [om 28 8,om 29 1,oq 30 (.len false 29),oq 31 (.bin .int .lss 28 30)]) (.condJ ⟨[.slot 9 .int],[32,33,34,35],[],[]⟩ 31 (rg [om 32 1,om 33 8,oq 34 (.ia 1 32 33),oq 35 (.load none 34),om 9 35]) (.skip))) (.seq (.seq (.regionJ ⟨[.slot 41 .bool],[36,37,38,39,40],[],[]⟩ [om 36 9,oq 37 (.bin .int .lss 36 (ci 0)),om 38 37,og 39 (.mov 9) 38 false [],og 40 (.bin .int .gtr 39 (ci 100000)) 38 false [],oq 41 (.pick 38 (cb true) 40)] [] false) (.cond 41 (.seq (rg [om 4 (cb true)]) (.ret)) (.skip))) (.seq (.region [om 42 6,om 43 8,oq 44 (.bin .int .add (ci 1) 43),oq 45 (.bslice false 1 [.int .i64 0] 1 [(0,44)]),om 46 9,oq 47 (.build [.slice none 0 0,.int .i64 0] [(0,1,45),(1,1,46)]),oq 48 (.bslice true 2 [.slice none 0 0,.int .i64 0] 1 [(0,47)]),oq 49 (.app 2 42 48),om 6 49] [.int,.int,.int,.int,.int,.int,.entry,.entry] false) (rg [om 50 7,om 51 9,oq 52 (.bin .int .add 50 51),om 7 52])))))) (rg [om 26 8,oq 27 (.bin .int .add 26 (ci 1)),om 8 27]))))) (.seq (rg [oq 54 (.load (some 1) 5),om 55 6,oq 56 (.bslice false 1 [.int .i64 0] 1 [(0,(ci 0))]),om 57 7,oq 58 (.call true [] 382 [54,55,56,57]),om 53 58,oq 59 (.ext 53 0),oq 60 (.ext 53 1),om 10 59,om 11 60]) (.seq (.seq (.regionJ ⟨[.slot 68 .bool],[61,62,63,64,65,66,67],[],[]⟩ [om 61 11,oq 62 (.eqn false true 61),om 63 62,og 64 (.mov 10) 63 false [],og 65 (.len false 64) 63 false [],og 66 (.mov 0) 63 false [],og 67 (.bin .int .neq 65 66) 63 false [],oq 68 (.pick 63 (cb true) 67)] [] false) (.cond 68 (.seq (rg [om 4 (cb false)]) (.ret)) (.skip))) (.seq (.seq (rg [om 12 (ci 0)]) (.loop ⟨[.slot 12 .int],[69,70,71,72,73,74,75,76,77,78,79,80,81,82,83,84,85,86,87,88,89,90,91],[],[]⟩ 2 (.seq (.seq (rg [om 69 12,om 70 0,oq 71 (.bin .int .lss 69 70)]) (.cond 71 (.skip) (.exit 2))) (.seq (.block 3 (.seq (.regionJ ⟨[.slot 91 .bool],[74,75,76,77,78,79,80,81,82,83,84,85,86,87,88,89,90],[],[]⟩ [om 74 10,om 75 12,od 76 (.ia 3 74 75) [0,1],od 77 (.fa 1 76) [2],od 78 (.load none 77) [3],om 79 6,om 80 12,od 81 (.ia 2 79 80) [5,6],od 82 (.fa 1 81) [7],od 83 (.load none 82) [8],od 84 (.bin .int .neq 78 83) [4,9],od 85 (.mov 84) [10],og 86 (.mov 10) 85 false [11],og 87 (.mov 12) 85 false [11],og 88 (.ia 3 86 87) 85 false [12,13,11],og 89 (.fa 2 88) 85 false [14,11],og 90 (.load none 89) 85 false [15,11],od 91 (.pick 85 (cb true) 90) [11,16]] [] true) (.cond 91 (.seq (rg [om 4 (cb false)]) (.ret)) (.skip)))) (rg [om 72 12,oq 73 (.bin .int .add 72 (ci 1)),om 12 73]))))) (.seq (rg [om 4 (cb true)]) (.ret)))))))))) 
def gW:TFunc:=⟨2,92,[.tmp 4],false,gX,[]⟩
def zaE (a0:Int) (a1:LI) (x3:(LY×Int×Int)):Option (LR (LY×Int×Int) Bool) :=
 br (decide (x3.2.2 < a0))
 (jn (σ:=Int) (α:=(LR ((List Entry)×Int×Int) Bool)) (br (decide (x3.2.2 < (a1.length:Int)))
 (bno (zA a1 x3.2.2) fun y4 =>
 zt (some y4))
 (zt (some (0:Int)))) fun x5 =>
 jn (σ:=Bool) (α:=(LR ((List Entry)×Int×Int) Bool)) (br (decide (x5 < (0:Int)))
 (zt (some true))
 (zt (some (decide ((100000:Int) < x5))))) fun x6 =>
 br x6
 (ya (some true))
 (ck (decide (List.length x3.1+List.length ([Entry.mk ([wi ((1:Int)+x3.2.2)]:List Int) x5]:List Entry)<=zX)) <|
 nxO (some (x3.1++([Entry.mk ([wi ((1:Int)+x3.2.2)]:List Int) x5]:List Entry),wi (x3.2.1+x5),wi (x3.2.2+(1:Int))))))
 (dnO (some (x3.1,x3.2.1,x3.2.2)))
def zfB (a0:Int) (x7:(LY×Int×Int)) (y8:((List Edit)×Err)) (aT:Int):Option (LR Int Bool) :=
 br (decide (aT < a0))
 (jn (σ:=Bool) (α:=(LR Int Bool)) (bno (zA y8.1 aT) fun cH =>
 bno (zA x7.1 aT) fun gT =>
 br (decide (¬ (Edit.n cH)=(Entry.n gT)))
 (zt (some true))
 (bno (zA y8.1 aT) fun cA =>
 zt (some (Edit.clear cA)))) fun kC =>
 br kC
 (ya (some false))
 (nxO (some (wi (aT+(1:Int))))))
 (dnO (some aT))
def S373 (a0:Int) (a1:LI):Option Bool :=
 jn (σ:=Bool) (α:=Bool) (br (decide (a0 < (1:Int)))
 (zt (some true))
 (zt (some (decide ((9:Int) < a0))))) fun x1 =>
 br x1
 (some true)
 (bno (F50 (⟨#[120]⟩:ByteArray) a0) fun y2 =>
 lp (zaE a0 a1) (([]:List Entry),(0:Int),(0:Int)) fun x7 =>
 bno (F382 ([y2]:List Dim) x7.1 ([(0:Int)]:List Int) x7.2.1) fun y8 =>
 jn (σ:=Bool) (α:=Bool) (br (!(Err.isNil y8.2))
 (zt (some true))
 (zt (some (decide (¬ (y8.1.length:Int)=a0))))) fun x9 =>
 br x9
 (some false)
 (lp (zfB a0 x7 y8) (0:Int) fun gU =>
 some true))
def P373:=S373 P382 P50
def ik:CSpec:=⟨373,[.int,(.sl .int)],.bool,fun x=>P373 x.1 x.2,false,[]⟩
def lH {S:Seat} (h:Ok1 S 373 gW):RtF S [k382,k50] (Rt S ik):=okr h rfl fun x=>by kernel_rfl
end
end Ab
