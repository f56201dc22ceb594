/-
  Functions of the program as typed code, what they come to, and their contracts: written by program (mk.py).
-/
import Derived.Test.YtchidgkpkhloeaaGreatDoorH7
import Derived.Test.YtchidgkpkhloeaaGreatDoorHO
set_option linter.all false
noncomputable section
namespace Ab
open Go
set_option maxRecDepth 100000
section
variable (F104:LI->LI->(Option Bool)) (F128:(List LI)->(List LI)->(Option Bool)) (F142:LD->Int->(Option LI)) (F24:LC->LC->(Option Bool)) (F322:(List LI)->(Option LI)) (F324:LD->(Option Int)) (F332:LD->LY->(Option (LC×Err))) (F333:LD->LY->(Option ((List LI)×Err))) (F334:LD->(Option (LI×Err))) (F335:LD->LY->(Option Int)) (F336:LD->LY->(Option LC)) (F338:LD->(Option (List LI))) (F92:Err->Int->(Option Bool))
def tc313:TCode:=.seq (rg [oq 2 (.box 0),om 4 (cb false)]) (.seq (rg [oq 21 (.load (some 1) 2),om 22 1,oq 23 (.call false [] 335 [21,22]),om 5 23]) (.seq (rg [om 6 cn]) (.seq (rg [om 7 cn]) (.seq (.seq (rg [om 24 5,oq 25 (.bin .int .eql 24 (ci 0))]) (.condJ ⟨[.slot 6 (.sl .cell)],[26,27,28],[],[]⟩ 25 (rg [oq 26 (.load (some 1) 2),om 27 1,oq 28 (.call true [] 336 [26,27]),om 6 28]) (.skip))) (.seq (.seq (rg [om 8 (ci 0)]) (.loop ⟨[.row 7 47 (.sl .int),.slot 8 .int],[9,29,30,31,32,33,34,35,36,37,38,39,40,41,42,43,44,45,46,47],[46],[]⟩ 0 (.seq (.seq (rg [om 29 8,om 30 6,oq 31 (.len false 30),oq 32 (.bin .int .lss 29 31)]) (.cond 32 (.skip) (.exit 0))) (.seq (.block 1 (.seq (rg [om 35 6,om 36 8,oq 37 (.ia 2 35 36),oq 38 (.fa 0 37),oq 39 (.load none 38),oq 40 (.bin .int .eql 39 (ci 2))]) (.condJ ⟨[.row 7 47 (.sl .int)],[9,41,42,43,44,45,46,47],[46],[]⟩ 40 (.seq (rg [oq 41 (.load (some 1) 2),om 42 8,oq 43 (.call true [] 142 [41,42]),om 9 43]) (.region [om 44 7,om 45 9,oq 46 (.bslice true 1 [.slice none 0 0] 1 [(0,45)]),oq 47 (.app 1 44 46),om 7 47] [.int,.int,(.sl .int),(.sl .int)] false)) (.skip)))) (rg [om 33 8,oq 34 (.bin .int .add 33 (ci 1)),om 8 34]))))) (.seq (rg [oq 49 (.load (some 1) 2),om 50 1,oq 51 (.call true [] 332 [49,50]),om 48 51,oq 52 (.ext 48 0),oq 53 (.ext 48 1),om 10 52,om 11 53]) (.seq (rg [om 54 11,om 55 5,oq 56 (.call false [] 92 [54,55]),om 12 56]) (.seq (rg [om 57 10,om 58 6,oq 59 (.call false [] 24 [57,58]),om 13 59]) (.seq (rg [oq 61 (.load (some 1) 2),om 62 1,oq 63 (.call true [] 333 [61,62]),om 60 63,oq 64 (.ext 60 0),oq 65 (.ext 60 1),om 14 64,om 11 65]) (.seq (rg [om 66 11,om 67 5,oq 68 (.call false [] 92 [66,67]),om 15 68]) (.seq (rg [om 69 14,om 70 7,oq 71 (.call false [] 128 [69,70]),om 16 71]) (.seq (rg [oq 72 (.load (some 1) 2),oq 73 (.call false [] 324 [72]),om 5 73]) (.seq (rg [om 17 cn]) (.seq (.seq (rg [om 74 5,oq 75 (.bin .int .eql 74 (ci 0))]) (.condJ ⟨[.slot 17 (.sl .int)],[76,77,78],[],[]⟩ 75 (rg [oq 76 (.load (some 1) 2),oq 77 (.call true [] 338 [76]),oq 78 (.call true [] 322 [77]),om 17 78]) (.skip))) (.seq (rg [oq 80 (.load (some 1) 2),oq 81 (.call true [] 334 [80]),om 79 81,oq 82 (.ext 79 0),oq 83 (.ext 79 1),om 18 82,om 11 83]) (.seq (rg [om 84 11,om 85 5,oq 86 (.call false [] 92 [84,85]),om 19 86]) (.seq (rg [om 87 18,om 88 17,oq 89 (.call false [] 104 [87,88]),om 20 89]) (.seq (.regionJ ⟨[.slot 4 .bool],[90,91,92,93,94,95,96,97,98,99,100,101,102,103,104,105],[],[]⟩ [om 90 12,om 91 90,og 92 (.mov 15) 91 true [],oq 93 (.pick 91 92 (cb false)),om 94 93,og 95 (.mov 19) 94 true [],oq 96 (.pick 94 95 (cb false)),om 97 96,og 98 (.mov 13) 97 true [],oq 99 (.pick 97 98 (cb false)),om 100 99,og 101 (.mov 16) 100 true [],oq 102 (.pick 100 101 (cb false)),om 103 102,og 104 (.mov 20) 103 true [],oq 105 (.pick 103 104 (cb false)),om 4 105] [] false) (.ret))))))))))))))))))) 
def tf313:TFunc:=⟨2,106,[.tmp 4],false,tc313,[]⟩
def zbe (a0:LD) (x3:LC) (x4:((List LI)×Int)):Option (LR ((List LI)×Int) Bool) :=
 br (decide (x4.2 < (x3.length:Int)))
 (bno (zl x3 x4.2) fun y5 =>
 jn (σ:=(List (List Int))) (α:=(LR ((List (List Int))×Int) Bool)) (br (decide ((Cell.k y5)=(2:Int)))
 (bno (F142 a0 x4.2) fun y6 =>
 ck (decide (List.length x4.1+List.length ([y6]:List (List Int))<=zu)) <|
 zt (some (x4.1++([y6]:List (List Int)))))
 (zt (some x4.1))) fun x7 =>
 nxO (some (x7,wi (x4.2+(1:Int)))))
 (dnO (some (x4.1,x4.2)))
def S313 (a0:LD) (a1:LY):Option Bool :=
 bno (F335 a0 a1) fun y1 =>
 jn (σ:=(List Cell)) (α:=Bool) (br (decide (y1=(0:Int)))
 (bno (F336 a0 a1) fun y2 =>
 zt (some y2))
 (zt (some ([]:List Cell)))) fun x3 =>
 lp (zbe F142 a0 x3) (([]:List (List Int)),(0:Int)) fun x8 =>
 bno (F332 a0 a1) fun y9 =>
 bno (F92 y9.2 y1) fun dw =>
 bno (F24 y9.1 x3) fun cS =>
 bno (F333 a0 a1) fun da =>
 bno (F92 da.2 y1) fun cp =>
 bno (F128 da.1 x8.1) fun eM =>
 bno (F324 a0) fun dY =>
 jn (σ:=(List Int)) (α:=Bool) (br (decide (dY=(0:Int)))
 (bno (F338 a0) fun gV =>
 bno (F322 gV) fun eL =>
 zt (some eL))
 (zt (some ([]:List Int)))) fun ku =>
 bno (F334 a0) fun fE =>
 bno (F92 fE.2 dY) fun oP =>
 bno (F104 fE.1 ku) fun gU =>
 jn (σ:=Bool) (α:=Bool) (br dw
 (br cp
 (br oP
 (br cS
 (br eM
 (zt (some gU))
 (zt (some false)))
 (zt (some false)))
 (zt (some false)))
 (zt (some false)))
 (zt (some false))) fun cD =>
 some cD
def P313:=S313 P104 P128 zlc P24 P322 P324 P332 P333 P334 P335 P336 P338 P92
def k313:CSpec:=⟨313,[(.st .outl),(.sl .entry)],.bool,fun x=>P313 x.1 x.2,false,[]⟩
def r313 {S:Seat} (h:Ok1 S 313 tf313):RtF S [iF,iB,eT,ry,iq,fT,k332,ik,ij,ig,ic,fR,rr] (Rt S k313):=okr h rfl fun x=>by kernel_rfl
end
end Ab
