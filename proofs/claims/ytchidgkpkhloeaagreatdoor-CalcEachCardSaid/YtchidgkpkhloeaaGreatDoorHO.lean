import Derived.Test.YtchidgkpkhloeaaGreatDoorHI
import Derived.Test.YtchidgkpkhloeaaGreatDoorH3
set_option linter.unusedVariables false
set_option linter.unusedSimpArgs false
noncomputable section
namespace Ab
open Go
section
set_option maxRecDepth 100000
section
variable (F100:Dim->Int->(Option LI)) (F102:Dim->Int->(Option Bool)) (F106:LD->(Option Int)) (F130:LD->LI->(Option Bool)) (F134:LY->LI->(Option Cell)) (F140:LD->LI->(Option Int)) (F142:LD->Int->(Option LI)) (F146:Cell->Cell->Int->(Option Cell)) (F243:LN->(Option (List ByteArray))) (F247:ByteArray->(Option (LN×Int×Int))) (F250:LI->Int->Int->(Option LI)) (F292:LN->Int->(List ByteArray)->LC->(Option Cell)) (F321:Dim->(Option ((List LI)×Int×Int))) (F325:LD->(List (List LI))->LI->(Option LI)) (F326:LD->(Option (List (List LI)))) (F337:LD->LI->(Option Int)) (F338:LD->(Option (List LI))) (F347:LI->Int->(Option LI)) (F354:LD->LY->LI->LC->(Option Cell)) (F96:Dim->ByteArray->(Option Int))
def zfw (a0:LD) (a1:LI) (x1:(Int×Int)):Option (LR (Int×Int) Int) :=
 br (decide (x1.2 < ((List.length a1:Nat):Int)))
 (bno (zj a0 x1.2) fun y2 =>
 bno (zj a1 x1.2) fun y3 =>
 bno (F102 y2 y3) fun y4 =>
 jn (σ:=Bool) (α:=(LR (Int×Int) Int)) (br (!y4)
 (br (decide (x1.1 < (0:Int)))
 (zw (some true))
 (bno (zj a0 x1.2) fun y5 =>
 bno (zj a0 x1.1) fun y6 =>
 zw (some (decide ((Dim.solve y6) < (Dim.solve y5))))))
 (zw (some false))) fun x7 =>
 jn (σ:=Int) (α:=(LR (Int×Int) Int)) (br x7
 (zw (some x1.2))
 (zw (some x1.1))) fun x8 =>
 nxO (some (x8,wi (x1.2+(1:Int)))))
 (dnO (some (x1.1,x1.2)))
def S337 (a0:LD) (a1:LI):Option Int :=
 lp (zfw F102 a0 a1) ((-1:Int),(0:Int)) fun x9 =>
 some x9.1
def P337:=S337 P102
def zfo (a0:LD) (a2:LI) (a3:LC) (y1:Int) (y3:Dim) (y9:(List ByteArray)) (x10:(LC×Int)):Option (LR (LC×Int) Cell) :=
 br (decide (x10.2 < ((List.length y9:Nat):Int)))
 (bno (zj y9 x10.2) fun y11 =>
 bno (F96 y3 y11) fun y12 =>
 bno (F250 a2 y1 y12) fun y13 =>
 bno (F140 a0 y13) fun y14 =>
 bno (zj a3 y14) fun y15 =>
 ck (decide (List.length x10.1+List.length ([y15]:List Cell)<=zu)) <|
 nxO (some (x10.1++([y15]:List Cell),wi (x10.2+(1:Int)))))
 (dnO (some (x10.1,x10.2)))
def zfn (a0:LD) (a2:LI) (a3:LC) (y1:Int) (y3:Dim) (y19:LI) (x20:(Int×(Int×Int))):Option (LR (Int×(Int×Int)) Cell) :=
 br (decide (x20.1 < ((List.length y19:Nat):Int)))
 (bno (zj y19 x20.1) fun y21 =>
 bno (zj (Dim.members y3) y21) fun y22 =>
 jn (σ:=(Int×Int)) (α:=(LR (Int×(Int×Int)) Cell)) (br (decide (¬ (Member.sign y22)=(0:Int)))
 (bno (zj y19 x20.1) fun y23 =>
 bno (F250 a2 y1 y23) fun y24 =>
 bno (F140 a0 y24) fun y25 =>
 bno (zj a3 y25) fun y26 =>
 bno (F146 (Cell.mk x20.2.1 x20.2.2) y26 (Member.sign y22)) fun y27 =>
 zw (some (Cell.k y27,Cell.n y27)))
 (zw (some (x20.2.1,x20.2.2)))) fun x28 =>
 nxO (some (wi (x20.1+(1:Int)),(x28.1,x28.2))))
 (dnO (some (x20.1,(x20.2.1,x20.2.2))))
def S354 (a0:LD) (a1:LY) (a2:LI) (a3:LC):Option Cell :=
 bno (F337 a0 a2) fun y1 =>
 br (decide (y1 < (0:Int)))
 (bno (F134 a1 a2) fun y2 =>
 some y2)
 (bno (zj a0 y1) fun y3 =>
 bno (zj a2 y1) fun y4 =>
 bno (zj (Dim.members y3) y4) fun y5 =>
 br (decide (¬ (Member.formula y5)=(⟨#[]⟩:ByteArray)))
 (bno (zj a2 y1) fun y6 =>
 bno (zj (Dim.members y3) y6) fun y7 =>
 bno (F247 (Member.formula y7)) fun y8 =>
 bno (F243 y8.1) fun y9 =>
 lp (zfo F140 F250 F96 a0 a2 a3 y1 y3 y9) (([]:List Cell),(0:Int)) fun x16 =>
 bno (F292 y8.1 (wi (((List.length y8.1:Nat):Int) - (1:Int))) y9 x16.1) fun y17 =>
 some y17)
 (bno (zj a2 y1) fun y18 =>
 bno (F100 y3 y18) fun y19 =>
 lp (zfn F140 F146 F250 a0 a2 a3 y1 y3 y19) ((0:Int),((0:Int),(0:Int))) fun x29 =>
 some (Cell.mk x29.2.1 x29.2.2)))
def P354:=S354 P100 P134 P140 P146 P243 P247 P250 P292 P337 P96
end
end
section
section
variable {o:List Dim} {p:List Int} (hf:Fit o p) (hl:p.length<=1000) (hd:∀ d∈o,d.members.length<=1000)
include hf hl hd
theorem P337_eq:P337 o p=some (byL o p):=by
 simp only[P337,S337];have hs:=zJ (B:=zfw P102 o p) (fun i=>(byN o p i,(i:Int))) p.length (fun i hi=>by
  obtain ⟨d,k,h1,h2,h3,h4⟩:=by_get hf hd hi;have e4:wi ((i:Int)+1)=((i+1:Nat):Int):=by rw[qL (by omega) (by omega)];omega
  have hb:=byN_lt o p i;simp only[zfw];rw[zl,if_pos (by omega)];simp only[zb,h1,h2,zi,P102_eq h4 h3];have hbc:byC o p (byN o p i) i=(!wC d.members k && (decide (byN o p i < 0) || decide ((o.getD (byN o p i).toNat default).solve < d.solve))):=(by simp only[byC,h1,h2,Int.toNat_natCast]);rw[byN,hbc];cases wC d.members k with
  | true=>simp[e4]
  | false =>
   by_cases c:byN o p i < 0
   ·simp[c,e4]
   ·have hg:zj o (byN o p i)=some (o.getD (byN o p i).toNat default):=(by rw[zeN (by omega) (by have:=hf.len;omega),List.getD_eq_getElem?_getD,List.getElem?_eq_getElem (by have:=hf.len;omega)];rfl);simp only[hg,Bool.not_false,zm,zl,if_neg c,zi,zx,qp,e4,decide_eq_false c,Bool.false_or,Bool.true_and];by_cases c2:(o.getD (byN o p i).toNat default).solve < d.solve
    ·simp[c2]
    ·simp[c2])
 rw[qy,show ((-1:Int),(0:Int))=(byN o p 0,((0:Nat):Int)) from rfl,hs,zP (y:=(byN o p p.length,(p.length:Int))) (by simp only[zfw];rw[zl,if_neg (by omega)];rfl)];rfl
end
end
end Ab
