import Derived.Test.YtchidgkpkhloeaaGreatDoorHF
set_option linter.unusedVariables false
set_option linter.unusedSimpArgs false
noncomputable section
namespace Ab
open Go
section
open Go Go.RowKit
section
variable {S:Seat} {C:List CSpec}
end
end
section
set_option maxRecDepth 100000
section
variable (F355:Dim->Int->(Option ((Option LN)×Err))) (F40:LD->(Option Int))
end
end
section
open Go Go.RowKit
structure JP where
 s:Solver
 fit:List Int->Prop
 num:List Int->Nat
 rk:List Int->Nat
 U:Nat->Cell
structure MemoIs (J:JP) (w:World) (kn:List Bool) (cl:List Cell):Prop where
 hk:∃ vs el,w.heap[J.s.kb]? = some (.cells vs el (0,0))∧∀ i,i < J.s.n->vs[i]? = some (.bool (kn.getD i false))
 hc:∃ vs el,w.heap[J.s.cb]? = some (.cells vs el (0,0))∧∀ i,i < J.s.n->vs[i * 2]? = some (.int .i64 (cl.getD i default).k)∧vs[i * 2+1]? = some (.int .i64 (cl.getD i default).n)
 lk:kn.length=J.s.n
 lc:cl.length=J.s.n
 ok:∀ i,kn.getD i false=true->cl.getD i default=J.U i
def Memo (J:JP) (w:World):Prop:=∃ kn cl,MemoIs J w kn cl
def JG (J:JP) (b:Nat):Prop:=b=J.s.kb∨b=J.s.cb
theorem Memo.keep (J:JP) (w w':World) (h:∀ b,JG J b->b < w.heap.size∧w'.heap[b]? = w.heap[b]?) (hm:Memo J w):Memo J w':=by obtain ⟨kn,cl,⟨v1,e1,h1,g1⟩,⟨v2,e2,h2,g2⟩,h3,h4,h5⟩:=hm;exact ⟨kn,cl,⟨v1,e1,((h _ (.inl rfl)).2).trans h1,g1⟩,⟨v2,e2,((h _ (.inr rfl)).2).trans h2,g2⟩,h3,h4,h5⟩
def seatJ (S:Seat) (J:JP):Seat:={ S with jg:=JG J,jn:=Memo J,jnK:=Memo.keep J }
open Classical in
def P351 (J:JP) (n:Nat) (s:Solver) (p:List Int):Option Cell:=if s=J.s∧J.fit p∧J.rk p < n then some (J.U (J.num p)) else none
end
section
open Go Go.RowKit
structure NewIs (S:Seat) (A:Nat->Prop) (w w':World) (v:Value) (s:Solver) (A':Nat->Prop) (kn:List Bool) (cl:List Cell):Prop where
 sub:∀ b,A b->A' b
 lt:∀ b,A' b->b < w'.heap.size∧(A b∨w.heap.size<=b)
 rel:VR0 S A' w' (.ep (Solver.cs s) 0) v
 nk:¬ A' s.kb
 nc:¬ A' s.cb
 ne:s.kb≠s.cb
 bk:w.heap.size<=s.kb∧s.kb < w'.heap.size
 bc:w.heap.size<=s.cb∧s.cb < w'.heap.size
 hk:∃ vs el,w'.heap[s.kb]? = some (.cells vs el (0,0))∧∀ i,i < kn.length->vs[i]? = some (.bool (kn.getD i false))
 hc:∃ vs el,w'.heap[s.cb]? = some (.cells vs el (0,0))∧∀ i,i < cl.length->vs[i * 2]? = some (.int .i64 (cl.getD i default).k)∧vs[i * 2+1]? = some (.int .i64 (cl.getD i default).n)
theorem getD_some {vs:Array Value} {j:Nat} {x:Value} (h:x=vs.getD j undef) (hx:x≠undef):vs[j]? = some x:=by
 rw[Array.getD_eq_getD_getElem?] at h;cases hj:vs[j]? with
 | none=>rw[hj] at h;exact absurd h hx
 | some y=>rw[hj] at h;rw[h];rfl
end
section
set_option maxRecDepth 100000
section
variable (F298_364:LN->(Solver×LI×Int×Dim)->(Option Cell)) (F33:Cell->Cell->Int->(Option Cell)) (F34:Cell->Cell->(Option Cell)) (F35:Cell->Cell->(Option Cell)) (F351:Solver->LI->(Option Cell)) (F353:LD->LI->(Option Int)) (F364:ByteArray->Solver->LI->Int->Dim->(Option Cell)) (F37:LM->ByteArray->(Option Int)) (F47:Dim->Int->(Option LI)) (F57:LY->LI->(Option Cell)) (F70:LI->Int->Int->(Option LI)) (F8:Int->(Option Cell))
def S364 (a0:ByteArray) (a1:Solver) (a2:LI) (a3:Int) (a4:Dim):Option Cell :=
 bno (F37 (Dim.members a4) a0) fun y1 =>
 bno (F70 a2 a3 y1) fun y2 =>
 bno (F351 a1 y2) fun y3 =>
 some y3
def P364 (J:JP) (n:Nat) (a0:ByteArray) (a1:Solver) (a2:(List Int)) (a3:Int) (a4:Dim):Option Cell:=S364 (P351 J n) P37 P70 a0 a1 a2 a3 a4
def zgL (a0:LN) (a1:(Solver×LI×Int×Dim)) (x1:(Int×LC)):Option (LR (Int×LC) Cell) :=
 br (decide (x1.1 < ((List.length a0:Nat):Int)))
 (bno (zq a0 x1.1) fun y2 =>
 jn (σ:=(List Cell)) (α:=(LR (Int×(List Cell)) Cell)) (br (decide ((Node.op y2)=(1:Int)))
 (bno (F8 (Node.n y2)) fun y3 =>
 ck (decide (0<=x1.1∧x1.1 < ((List.length x1.2:Nat):Int))) <|
 bno ((x1.2)[(Int.toNat x1.1)]?) fun y4 =>
 zx (some (List.set x1.2 (Int.toNat x1.1) y3)))
 (jn (σ:=(List Cell)) (α:=(Sum (List Cell) (LR (Int×(List Cell)) Cell))) (br (decide ((Node.op y2)=(2:Int)))
 (bno (F364 (Node.name y2) a1.1 a1.2.1 a1.2.2.1 a1.2.2.2) fun y5 =>
 ck (decide (0<=x1.1∧x1.1 < ((List.length x1.2:Nat):Int))) <|
 bno ((x1.2)[(Int.toNat x1.1)]?) fun y6 =>
 zx (some (List.set x1.2 (Int.toNat x1.1) y5)))
 (jn (σ:=(List Cell)) (α:=(Sum (List Cell) (Sum (List Cell) (LR (Int×(List Cell)) Cell)))) (br (decide ((Node.op y2)=(3:Int)))
 (ck (decide (0<=Node.left y2∧Node.left y2 < ((List.length x1.2:Nat):Int))) <|
 bno ((x1.2)[(Int.toNat (Node.left y2))]?) fun y7 =>
 ck (decide (0<=Node.right y2∧Node.right y2 < ((List.length x1.2:Nat):Int))) <|
 bno ((x1.2)[(Int.toNat (Node.right y2))]?) fun y8 =>
 bno (F33 y7 y8 (1:Int)) fun y9 =>
 ck (decide (0<=x1.1∧x1.1 < ((List.length x1.2:Nat):Int))) <|
 bno ((x1.2)[(Int.toNat x1.1)]?) fun y10 =>
 zx (some (List.set x1.2 (Int.toNat x1.1) y9)))
 (jn (σ:=(List Cell)) (α:=(Sum (List Cell) (Sum (List Cell) (Sum (List Cell) (LR (Int×(List Cell)) Cell))))) (br (decide ((Node.op y2)=(4:Int)))
 (ck (decide (0<=Node.left y2∧Node.left y2 < ((List.length x1.2:Nat):Int))) <|
 bno ((x1.2)[(Int.toNat (Node.left y2))]?) fun y11 =>
 ck (decide (0<=Node.right y2∧Node.right y2 < ((List.length x1.2:Nat):Int))) <|
 bno ((x1.2)[(Int.toNat (Node.right y2))]?) fun y12 =>
 bno (F33 y11 y12 (-1:Int)) fun y13 =>
 ck (decide (0<=x1.1∧x1.1 < ((List.length x1.2:Nat):Int))) <|
 bno ((x1.2)[(Int.toNat x1.1)]?) fun y14 =>
 zx (some (List.set x1.2 (Int.toNat x1.1) y13)))
 (jn (σ:=(List Cell)) (α:=(Sum (List Cell) (Sum (List Cell) (Sum (List Cell) (Sum (List Cell) (LR (Int×(List Cell)) Cell)))))) (br (decide ((Node.op y2)=(5:Int)))
 (ck (decide (0<=Node.left y2∧Node.left y2 < ((List.length x1.2:Nat):Int))) <|
 bno ((x1.2)[(Int.toNat (Node.left y2))]?) fun y15 =>
 ck (decide (0<=Node.right y2∧Node.right y2 < ((List.length x1.2:Nat):Int))) <|
 bno ((x1.2)[(Int.toNat (Node.right y2))]?) fun y16 =>
 bno (F34 y15 y16) fun y17 =>
 ck (decide (0<=x1.1∧x1.1 < ((List.length x1.2:Nat):Int))) <|
 bno ((x1.2)[(Int.toNat x1.1)]?) fun y18 =>
 zx (some (List.set x1.2 (Int.toNat x1.1) y17)))
 (ck (decide (0<=Node.left y2∧Node.left y2 < ((List.length x1.2:Nat):Int))) <|
 bno ((x1.2)[(Int.toNat (Node.left y2))]?) fun y19 =>
 ck (decide (0<=Node.right y2∧Node.right y2 < ((List.length x1.2:Nat):Int))) <|
 bno ((x1.2)[(Int.toNat (Node.right y2))]?) fun y20 =>
 bno (F35 y19 y20) fun y21 =>
 ck (decide (0<=x1.1∧x1.1 < ((List.length x1.2:Nat):Int))) <|
 bno ((x1.2)[(Int.toNat x1.1)]?) fun y22 =>
 zx (some (List.set x1.2 (Int.toNat x1.1) y21)))) fun x23 =>
 zx (some x23))) fun x24 =>
 zx (some x24))) fun x25 =>
 zx (some x25))) fun x26 =>
 zx (some x26))) fun x27 =>
 nxO (some (wi (x1.1+(1:Int)),x27)))
 (dnO (some (x1.1,x1.2)))
def S298_364 (a0:LN) (a1:(Solver×LI×Int×Dim)):Option Cell :=
 ck (decide (0<=((List.length a0:Nat):Int)∧((List.length a0:Nat):Int)<=((List.length a0:Nat):Int)∧((List.length a0:Nat):Int)<=zZ)) <|
 lp (zgL F33 F34 F35 F364 F8 a0 a1) ((0:Int),List.replicate (Int.toNat ((List.length a0:Nat):Int)) (Cell.mk (0:Int) (0:Int))) fun x28 =>
 ck (decide (0<=wi (((List.length a0:Nat):Int) - (1:Int))∧wi (((List.length a0:Nat):Int) - (1:Int)) < ((List.length x28.2:Nat):Int))) <|
 bno ((x28.2)[(Int.toNat (wi (((List.length a0:Nat):Int) - (1:Int))))]?) fun y29 =>
 some y29
def P298_364 (J:JP) (n:Nat) (a0:(List Node)) (a1:(Solver×(List Int)×Int×Dim)):Option Cell:=S298_364 P33 P34 P35 (P364 J n) P8 a0 a1
def S361_L1 (a0:Solver) (a1:LI) (y1:Int) (y3:Dim) (y9:LI) (x10:(Int×(Int×Int))):Option (LR (Int×(Int×Int)) Cell) :=
 br (decide (x10.1 < ((List.length y9:Nat):Int)))
 (bno (zq y9 x10.1) fun y11 =>
 bno (zq (Dim.members y3) y11) fun y12 =>
 jn (σ:=(Int×Int)) (α:=(LR (Int×(Int×Int)) Cell)) (br (decide (¬ (Member.sign y12)=(0:Int)))
 (bno (F70 a1 y1 y11) fun y13 =>
 bno (F351 a0 y13) fun y14 =>
 bno (F33 (Cell.mk x10.2.1 x10.2.2) y14 (Member.sign y12)) fun y15 =>
 zx (some (Cell.k y15,Cell.n y15)))
 (zx (some (x10.2.1,x10.2.2)))) fun x16 =>
 nxO (some (wi (x10.1+(1:Int)),(x16.1,x16.2))))
 (dnO (some (x10.1,(x10.2.1,x10.2.2))))
def S361 (a0:Solver) (a1:LI):Option Cell :=
 bno (F353 (Solver.o a0) a1) fun y1 =>
 br (decide (y1 < (0:Int)))
 (bno (F57 (Solver.l a0) a1) fun y2 =>
 some y2)
 (bno (zq (Solver.o a0) y1) fun y3 =>
 bno (zq (Solver.f a0) y1) fun y4 =>
 bno (zq a1 y1) fun y5 =>
 bno (zq y4 y5) fun y6 =>
 ck (match (y6:Option (List Node)) with | some xs => !xs.isEmpty | none=>true) <|
 br (Option.isSome y6)
 (bno (F298_364 (Option.getD y6 ([]:List Node)) (a0,a1,y1,y3)) fun y7 =>
 some y7)
 (bno (zq a1 y1) fun y8 =>
 bno (F47 y3 y8) fun y9 =>
 lp (S361_L1 F33 F351 F70 a0 a1 y1 y3 y9) ((0:Int),((0:Int),(0:Int))) fun x17 =>
 some (Cell.mk x17.2.1 x17.2.2)))
def P361 (J:JP) (n:Nat) (a0:Solver) (a1:(List Int)):Option Cell:=S361 (P298_364 J n) P33 (P351 J n) P353 P47 P57 P70 a0 a1
end
end
section
open Go Go.RowKit
structure JOk (J:JP):Prop where
 num:∀ p,J.fit p->P49 J.s.o p=some ((J.num p:Nat):Int)∧J.num p < J.s.n
 tell:∀ p,J.fit p->P361 J (J.rk p) J.s p=some (J.U (J.num p))
 ne:J.s.kb≠J.s.cb
theorem zgS {vs:Array Value} (hl:vs.size=2):∃ x0 x1,vs=#[x0,x1]:=by
 obtain ⟨r⟩:=vs
 match r,hl with
 | [x0,x1],_=>exact ⟨x0,x1,rfl⟩
theorem ret_v {S:Seat} {A:Nat->Prop} {X Y:World} {x v:Value} (h:zcV S A X Y (.v x) v):v=x:=by obtain ⟨β,_,_,hp⟩:=h;exact VR.v_inv (σ:=fun _=>none) (.of0 (show wM S _ _ (β 0) (.v x) v from hp).2)
end
section
open Go Go.RowKit
section
variable {S:Seat} {J:JP}
end
end
section
set_option maxRecDepth 100000
section
variable (F351:Solver->LI->(Option Cell)) (F40:LD->(Option Int)) (F69:LD->Int->(Option LI))
end
end
end Ab
