/-
  Functions of the program as typed code, what they come to, and their contracts: written by program (mk.py).
-/
import Derived.Test.YtkaifdgeigdbhaaGreatDoorMSe
set_option linter.all false
noncomputable section
namespace Ab
open Go
set_option maxRecDepth 100000
section
variable (F104:LI->LI->(Option Bool)) (F382:LD->LY->LI->Int->(Option ((List Edit)×Err))) (F383:Int->Int->(Option (LI×Int))) (F384:Int->Int->(Option (LI×Err))) (F385:Int->LI->(Option (LI×Int))) (F386:Int->LI->(Option (LI×Err))) (F387:LD->LY->LI->Int->(Option ((List Edit)×Int))) (F388:(List Edit)->(List Edit)->(Option Bool)) (F92:Err->Int->(Option Bool))
def tc374:TCode:=.seq (rg [oq 9 (.box 3),om 12 (cb false)]) (.seq (rg [om 26 0,om 27 1,oq 28 (.call true [] 383 [26,27]),om 25 28,oq 29 (.ext 25 0),oq 30 (.ext 25 1),om 13 29,om 14 30]) (.seq (rg [om 32 0,om 33 1,oq 34 (.call true [] 384 [32,33]),om 31 34,oq 35 (.ext 31 0),oq 36 (.ext 31 1),om 15 35,om 16 36]) (.seq (rg [om 37 16,om 38 14,oq 39 (.call false [] 92 [37,38]),om 17 39]) (.seq (rg [om 40 15,om 41 13,oq 42 (.call false [] 104 [40,41]),om 18 42]) (.seq (rg [om 44 0,om 45 2,oq 46 (.call true [] 385 [44,45]),om 43 46,oq 47 (.ext 43 0),oq 48 (.ext 43 1),om 13 47,om 14 48]) (.seq (rg [om 50 0,om 51 2,oq 52 (.call true [] 386 [50,51]),om 49 52,oq 53 (.ext 49 0),oq 54 (.ext 49 1),om 15 53,om 16 54]) (.seq (rg [om 55 16,om 56 14,oq 57 (.call false [] 92 [55,56]),om 19 57]) (.seq (rg [om 58 15,om 59 13,oq 60 (.call false [] 104 [58,59]),om 20 60]) (.seq (rg [oq 62 (.load (some 1) 9),om 63 4,om 64 5,om 65 0,oq 66 (.call true [] 387 [62,63,64,65]),om 61 66,oq 67 (.ext 61 0),oq 68 (.ext 61 1),om 21 67,om 14 68]) (.seq (rg [oq 70 (.load (some 1) 9),om 71 4,om 72 5,om 73 0,oq 74 (.call true [] 382 [70,71,72,73]),om 69 74,oq 75 (.ext 69 0),oq 76 (.ext 69 1),om 22 75,om 16 76]) (.seq (rg [om 77 16,om 78 14,oq 79 (.call false [] 92 [77,78]),om 23 79]) (.seq (rg [om 80 22,om 81 21,oq 82 (.call false [] 388 [80,81]),om 24 82]) (.seq (.regionJ ⟨[.slot 12 .bool],[83,84,85,86,87,88,89,90,91,92,93,94,95,96,97,98],[],[]⟩ [om 83 17,om 84 83,og 85 (.mov 19) 84 true [],oq 86 (.pick 84 85 (cb false)),om 87 86,og 88 (.mov 23) 87 true [],oq 89 (.pick 87 88 (cb false)),om 90 89,og 91 (.mov 18) 90 true [],oq 92 (.pick 90 91 (cb false)),om 93 92,og 94 (.mov 20) 93 true [],oq 95 (.pick 93 94 (cb false)),om 96 95,og 97 (.mov 24) 96 true [],oq 98 (.pick 96 97 (cb false)),om 12 98] [] false) (.ret)))))))))))))) 
def tf374:TFunc:=⟨6,99,[.tmp 12],false,tc374,[]⟩
def S374 (a0:Int) (a1:Int) (a2:LI) (a3:LD) (a4:LY) (a5:LI):Option Bool :=
 bno (F383 a0 a1) fun y1 =>
 bno (F384 a0 a1) fun y2 =>
 bno (F92 y2.2 y1.2) fun y3 =>
 bno (F104 y2.1 y1.1) fun y4 =>
 bno (F385 a0 a2) fun y5 =>
 bno (F386 a0 a2) fun y6 =>
 bno (F92 y6.2 y5.2) fun y7 =>
 bno (F104 y6.1 y5.1) fun y8 =>
 bno (F387 a3 a4 a5 a0) fun y9 =>
 bno (F382 a3 a4 a5 a0) fun dj =>
 bno (F92 dj.2 y9.2) fun cC =>
 bno (F388 dj.1 y9.1) fun ic =>
 jn (σ:=Bool) (α:=Bool) (br y3
 (br y7
 (br cC
 (br y4
 (br y8
 (zq (some ic))
 (zq (some false)))
 (zq (some false)))
 (zq (some false)))
 (zq (some false)))
 (zq (some false))) fun aL =>
 some aL
def P374:=S374 P104 P382 P383 P384 P385 P386 P387 P388 P92
def k374:CSpec:=⟨374,[.int,.int,(.sl .int),(.st .outl),(.sl .entry),(.sl .int)],.bool,fun x=>P374 x.1 x.2.1 x.2.2.1 x.2.2.2.1 x.2.2.2.2.1 x.2.2.2.2.2,false,[]⟩
def r374 {S:Seat} (h:Ok1 S 374 tf374):RtF S [k104,k382,k383,k384,k385,k386,k387,k388,k92] (Rt S k374):=okr h rfl fun x=>by kernel_rfl
end
end Ab
