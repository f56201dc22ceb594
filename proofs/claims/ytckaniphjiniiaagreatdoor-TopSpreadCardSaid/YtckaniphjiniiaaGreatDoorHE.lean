import Derived.Test.YtckaniphjiniiaaGreatDoorHD
import Derived.Test.YtckaniphjiniiaaGreatDoorC3
set_option linter.all false
noncomputable section
namespace Ab
open Go
section
set_option maxRecDepth 100000
section
variable (F150:Int->(Option Cell)) (F159:Int->(Option ByteArray)) (F160:Int->(Option Int)) (F161:ByteArray->Int->(Option (Int×Bool)))
end
end
section
set_option maxRecDepth 100000
section
variable (F245:LN->(Option ((List ByteArray)×Err))) (F297:(List ByteArray)->ByteArray->(Option Bool)) (F298_299:LN->(LC×(List ByteArray))->(Option Cell)) (F299:ByteArray->LC->(List ByteArray)->(Option Cell)) (F300:(List ByteArray)->ByteArray->(Option Int)) (F33:Cell->Cell->Int->(Option Cell)) (F34:Cell->Cell->(Option Cell)) (F35:Cell->Cell->(Option Cell)) (F52:Cell->(Option Err)) (F8:Int->(Option Cell))
def tc298:TCode:=.seq (rg [oq 4 (.alloc [.int .i64 0,.int .i64 0])]) (.seq (.region [om 8 0,oq 9 (Ln 8),oq 10 (.mksl 2 [.int .i64 0,.int .i64 0] 9 9),om 5 10] [.int,.int,.cell] false) (.seq (.seq (rg [om 11 0,oq 12 (Ln 11),om 13 (ci 0)]) (.loop ⟨[.slot 13 .int,.rowH 10 .cell],[6,7,14,15,16,17,18,19,20,21,22,23,24,25,26,27,28,29,30,31,32,33,34,35,36,37,38,39,40,41,42,43,44,45,46,47,48,49,50,51,52,53,54,55,56,57,58,59,60,61,62,63,64,65,66,67,68,69,70,71,72,73,74,75,76,77,78,79,80,81,82,83,84,85,86,87,88,89,90,91,92,93,94,95,96,97,98,99],[7],[]⟩ 0 (.seq (rg [oq 14 (Bi .lss 13 12)]) (.seq (.cond 14 .skip (.exit 0)) (.seq (.block 1 (.seq (rg [om 15 13,oq 16 (.ia 5 11 13),oq 17 (.load (some 5) 16),oq 7 (.alloc [.int .i64 0,.int .i64 0,.string ⟨#[]⟩,.int .i64 0,.int .i64 0]),om 6 15,on (.store 5 7 17)]) (.seq (rg [oq 18 (.fa 0 7),oq 19 (Ld 18)]) (.block 2 (.seq (rg [oq 35 (Bi .eql 19 (ci 1)),om 34 35]) (.condJ ⟨[.rowH 10 .cell],[20,21,22,23,24,25,26,27,28,29,30,31,32,33,36,37,38,39,40,41,42,43,44,45,46,47,48,49,50,51,52,53,54,55,56,57,58,59,60,61,62,63,64,65,66,67,68,69,70,71,72,73,74,75,76,77,78,79,80,81,82,83,84,85,86,87,88,89,90,91,92,93,94,95,96,97,98],[],[]⟩ 34 (rg [om 36 5,om 37 6,oq 38 (.fa 1 7),oq 39 (Ld 38),oq 40 (Cl 8 [39]),oq 41 (.ia 2 36 37),on (.store 2 41 40)]) (.seq (rg [oq 43 (Bi .eql 19 (ci 2)),om 42 43]) (.condJ ⟨[.rowH 10 .cell],[20,21,22,23,24,25,26,27,28,29,30,31,32,33,44,45,46,47,48,49,50,51,52,53,54,55,56,57,58,59,60,61,62,63,64,65,66,67,68,69,70,71,72,73,74,75,76,77,78,79,80,81,82,83,84,85,86,87,88,89,90,91,92,93,94,95,96,97,98],[],[]⟩ 42 (rg [om 44 5,om 45 6,om 46 1,oq 47 (.fa 2 7),oq 48 (Ld 47),oq 49 (.calld false 46 [48]),oq 50 (.ia 2 44 45),on (.store 2 50 49)]) (.seq (rg [oq 52 (Bi .eql 19 (ci 3)),om 51 52]) (.condJ ⟨[.rowH 10 .cell],[20,21,22,23,24,25,26,27,28,29,30,31,32,33,53,54,55,56,57,58,59,60,61,62,63,64,65,66,67,68,69,70,71,72,73,74,75,76,77,78,79,80,81,82,83,84,85,86,87,88,89,90,91,92,93,94,95,96,97,98],[],[]⟩ 51 (.region [om 53 5,om 54 6,om 55 5,oq 56 (.fa 3 7),od 57 (Ld 56) [3],od 58 (.ia 2 55 57) [2,4],od 59 (.load (some 2) 58) [5],om 60 5,oq 61 (.fa 4 7),od 62 (Ld 61) [8],od 63 (.ia 2 60 62) [7,9],od 64 (.load (some 2) 63) [10],od 65 (Cl 33 [59,64,(ci 1)]) [6,11],od 66 (.ia 2 53 54) [0,1,0,1,2,3,4,5,6,7,8,9,10,11,12],⟨none,.store 2 66 65,none,[13,12,12,0,1,2,3,4,5,6,7,8,9,10,11,12]⟩] [] true) (.seq (rg [oq 68 (Bi .eql 19 (ci 4)),om 67 68]) (.condJ ⟨[.rowH 10 .cell],[20,21,22,23,24,25,26,27,28,29,30,31,32,33,69,70,71,72,73,74,75,76,77,78,79,80,81,82,83,84,85,86,87,88,89,90,91,92,93,94,95,96,97,98],[],[]⟩ 67 (.region [om 69 5,om 70 6,om 71 5,oq 72 (.fa 3 7),od 73 (Ld 72) [3],od 74 (.ia 2 71 73) [2,4],od 75 (.load (some 2) 74) [5],om 76 5,oq 77 (.fa 4 7),od 78 (Ld 77) [8],od 79 (.ia 2 76 78) [7,9],od 80 (.load (some 2) 79) [10],od 81 (Cl 33 [75,80,(ci (-1))]) [6,11],od 82 (.ia 2 69 70) [0,1,0,1,2,3,4,5,6,7,8,9,10,11,12],⟨none,.store 2 82 81,none,[13,12,12,0,1,2,3,4,5,6,7,8,9,10,11,12]⟩] [] true) (.seq (rg [oq 84 (Bi .eql 19 (ci 5)),om 83 84]) (.condJ ⟨[.rowH 10 .cell],[20,21,22,23,24,25,26,27,28,29,30,31,32,33,85,86,87,88,89,90,91,92,93,94,95,96,97,98],[],[]⟩ 83 (.region [om 85 5,om 86 6,om 87 5,oq 88 (.fa 3 7),od 89 (Ld 88) [3],od 90 (.ia 2 87 89) [2,4],od 91 (.load (some 2) 90) [5],om 92 5,oq 93 (.fa 4 7),od 94 (Ld 93) [8],od 95 (.ia 2 92 94) [7,9],od 96 (.load (some 2) 95) [10],od 97 (Cl 34 [91,96]) [6,11],od 98 (.ia 2 85 86) [0,1,0,1,2,3,4,5,6,7,8,9,10,11,12],⟨none,.store 2 98 97,none,[13,12,12,0,1,2,3,4,5,6,7,8,9,10,11,12]⟩] [] true) (.region [om 20 5,om 21 6,om 22 5,oq 23 (.fa 3 7),od 24 (Ld 23) [3],od 25 (.ia 2 22 24) [2,4],od 26 (.load (some 2) 25) [5],om 27 5,oq 28 (.fa 4 7),od 29 (Ld 28) [8],od 30 (.ia 2 27 29) [7,9],od 31 (.load (some 2) 30) [10],od 32 (Cl 35 [26,31]) [6,11],od 33 (.ia 2 20 21) [0,1,0,1,2,3,4,5,6,7,8,9,10,11,12],⟨none,.store 2 33 32,none,[13,12,12,0,1,2,3,4,5,6,7,8,9,10,11,12]⟩] [] true))))))))))))))) (rg [oq 99 (Bi .add 13 (ci 1)),om 13 99])))))) (.seq (rg [om 100 5,om 101 0,oq 102 (Ln 101),oq 103 (Bi .sub 102 (ci 1)),oq 104 (.ia 2 100 103),oq 105 (.load (some 2) 104),on (.store 2 4 105)]) .ret))) 
def tf298:TFunc:=⟨2,106,[.cell 4 (some 2)],false,tc298,[]⟩
end
end
section
set_option maxRecDepth 100000
section
variable (F146:Cell->Cell->Int->(Option Cell)) (F147:Cell->Cell->(Option Cell)) (F148:Cell->Cell->(Option Cell)) (F150:Int->(Option Cell)) (F291:(List ByteArray)->ByteArray->(Option Int)) (F292:LN->Int->(List ByteArray)->LC->(Option Cell)) (F97:ByteArray->(Option Int))
def zhV (a0:LN) (x1:(Int×LI)):Option (LR (Int×LI) Int) :=
 br (decide (x1.1<(a0.length:Int)))
 (jn (σ:=(List Int)) (α:=(LR (Int×(List Int)) Int)) (bno (zu a0 x1.1) fun y2 =>
 jn (σ:=Bool) (α:=(Sum (List Int) (LR (Int×(List Int)) Int))) (br (decide ((Node.op y2)<(1:Int)))
 (zt (some true))
 (zt (some (decide ((6:Int)<(Node.op y2)))))) fun x3 =>
 br x3
 (ziI (yk (some (1:Int))))
 (br (decide ((Node.op y2)=(1:Int)))
 (jn (σ:=Bool) (α:=(Sum (List Int) (LR (Int×(List Int)) Int))) (br (decide ((Node.n y2)<(0:Int)))
 (zt (some true))
 (zt (some (decide ((1000000:Int)<(Node.n y2)))))) fun x4 =>
 br x4
 (ziI (yk (some (1:Int))))
 (jn (σ:=Bool) (α:=(Sum (List Int) (LR (Int×(List Int)) Int))) (br (decide (¬(Node.name y2)=(⟨#[]⟩:ByteArray)))
 (zt (some true))
 (br (decide (¬(Node.left y2)=(0:Int)))
 (zt (some true))
 (zt (some (decide (¬(Node.right y2)=(0:Int))))))) fun x5 =>
 br x5
 (ziI (yk (some (3:Int))))
 (zt (some x1.2))))
 (br (decide ((Node.op y2)=(2:Int)))
 (bno (F97 (Node.name y2)) fun y6 =>
 br (decide (¬y6=(0:Int)))
 (ziI (yk (some (2:Int))))
 (jn (σ:=Bool) (α:=(Sum (List Int) (LR (Int×(List Int)) Int))) (br (decide (¬(Node.n y2)=(0:Int)))
 (zt (some true))
 (br (decide (¬(Node.left y2)=(0:Int)))
 (zt (some true))
 (zt (some (decide (¬(Node.right y2)=(0:Int))))))) fun x7 =>
 br x7
 (ziI (yk (some (3:Int))))
 (zt (some x1.2))))
 (jn (σ:=Bool) (α:=(Sum (List Int) (LR (Int×(List Int)) Int))) (br (decide ((Node.left y2)<(0:Int)))
 (zt (some true))
 (br (decide (x1.1<=(Node.left y2)))
 (zt (some true))
 (br (decide ((Node.right y2)<(0:Int)))
 (zt (some true))
 (zt (some (decide (x1.1<=(Node.right y2)))))))) fun x8 =>
 br x8
 (ziI (yk (some (1:Int))))
 (jn (σ:=Bool) (α:=(Sum (List Int) (LR (Int×(List Int)) Int))) (br (decide (¬(Node.n y2)=(0:Int)))
 (zt (some true))
 (zt (some (decide (¬(Node.name y2)=(⟨#[]⟩:ByteArray)))))) fun x9 =>
 br x9
 (ziI (yk (some (3:Int))))
 (ck (decide (0<=Node.left y2∧Node.left y2<(x1.2.length:Int))) <|
 bno ((x1.2)[(Int.toNat (Node.left y2))]?) fun db =>
 ck (decide (0<=Node.left y2∧Node.left y2<(x1.2.length:Int))) <|
 bno ((x1.2)[(Int.toNat (Node.left y2))]?) fun cA =>
 ck (decide (0<=Node.right y2∧Node.right y2<((List.length (List.set x1.2 (Int.toNat (Node.left y2)) (wi (db+(1:Int)))):Nat):Int))) <|
 bno ((List.set x1.2 (Int.toNat (Node.left y2)) (wi (db+(1:Int))))[(Int.toNat (Node.right y2))]?) fun fY =>
 ck (decide (0<=Node.right y2∧Node.right y2<((List.length (List.set x1.2 (Int.toNat (Node.left y2)) (wi (db+(1:Int)))):Nat):Int))) <|
 bno ((List.set x1.2 (Int.toNat (Node.left y2)) (wi (db+(1:Int))))[(Int.toNat (Node.right y2))]?) fun cj =>
 zt (some (List.set (List.set x1.2 (Int.toNat (Node.left y2)) (wi (db+(1:Int)))) (Int.toNat (Node.right y2)) (wi (fY+(1:Int))))))))))) fun te =>
 nxO (some (wi (x1.1+(1:Int)),te)))
 (dnO (some (x1.1,x1.2)))
def zhU (a0:LN) (iC:(Int×LI)) (dk:Int):Option (LR Int Int) :=
 br (decide (dk<(wi ((a0.length:Int)-(1:Int)))))
 (ck (decide (0<=dk∧dk<(iC.2.length:Int))) <|
 bno ((iC.2)[(Int.toNat dk)]?) fun kL =>
 br (decide (¬kL=(1:Int)))
 (yk (some (3:Int)))
 (nxO (some (wi (dk+(1:Int))))))
 (dnO (some dk))
def S240 (a0:LN):Option Int :=
 br (decide ((a0.length:Int)=(0:Int)))
 (some (5:Int))
 (br (decide ((30:Int)<(a0.length:Int)))
 (some (4:Int))
 (ck (decide (0<=(a0.length:Int)∧(a0.length:Int)<=(a0.length:Int)∧(a0.length:Int)<=zC)) <|
 lp (zhV F97 a0) ((0:Int),List.replicate (Int.toNat (a0.length:Int)) (0:Int)) fun iC =>
 lp (zhU a0 iC) (0:Int) fun nq =>
 some (0:Int)))
def P240:=S240 P97
end
end
end Ab
