import Derived.Test.YtckaniphjiniiaaGreatDoorF1
set_option linter.all false
noncomputable section
namespace Ab
open Go
section
set_option maxRecDepth 100000
section
variable (F241:LN->(Option Err)) (F251:LN->Int->(Option Err)) (F252:Int->(Option Bool)) (F255:(List ByteArray)->(Option (List ByteArray))) (F256:(List ByteArray)->(Option (List ByteArray)))
def tc252:TCode:=.seq (rg [om 2 (cb false)]) (.seq (.regionJ ⟨[.slot 2 .bool],[3,4,5,6,7,8],[],[]⟩ [om 3 0,oq 4 (Bi .geq 3 (ci 3)),om 5 4,og 6 (.mov 0) 5 true [],og 7 (Bi .leq 6 (ci 6)) 5 true [],oq 8 (.pick 5 7 (cb false)),om 2 8] [] false) .ret) 
def tf252:TFunc:=⟨1,9,[.tmp 2],false,tc252,[]⟩
def S252 (a0:Int):Option Bool :=
 jn (σ:=Bool) (α:=Bool) (br (decide ((3:Int)<=a0))
 (zt (some (decide (a0<=(6:Int)))))
 (zt (some false))) fun x1 =>
 some x1
def P252:=S252
def k252:CSpec:=⟨252,[.int],.bool,fun x=>P252 x,false,[]⟩
def r252 {S:Seat} (h:Ok1 S 252 tf252):RtF S [] (Rt S k252):=okr h
def tc241:TCode:=.seq (rg [om 2 cz]) (.seq (.block 0 (.seq (rg [om 10 0,oq 11 (Ln 10),oq 12 (Bi .eql 11 (ci 0)),om 9 12]) (.cond 9 (.seq (rg [oq 13 (.ifc 1 (ci 5)),om 2 13]) .ret) (.seq (rg [om 15 0,oq 16 (Ln 15),oq 17 (Bi .gtr 16 (ci 30)),om 14 17]) (.cond 14 (.seq (rg [oq 18 (.ifc 1 (ci 4)),om 2 18]) .ret) .skip))))) (.seq (rg [om 19 0,oq 20 (Ln 19),oq 21 (.mksl 1 [.int .i64 0] 20 20),om 3 21]) (.seq (.seq (rg [om 22 0,oq 23 (Ln 22),om 24 (ci 0)]) (.loop ⟨[.slot 24 .int,.rowH 21 .int],[4,5,6,25,26,27,28,29,30,31,32,33,35,36,37,38,39,40,41,42,43,44,45,46,47,48,49,50,51,52],[5],[]⟩ 1 (.seq (rg [oq 25 (Bi .lss 24 23)]) (.seq (.cond 25 .skip (.exit 1)) (.seq (.block 2 (.seq (rg [om 26 24,oq 27 (.ia 5 22 24),oq 28 (.load (some 5) 27),oq 5 (.alloc [.int .i64 0,.int .i64 0,.string ⟨#[]⟩,.int .i64 0,.int .i64 0]),om 4 26,on (.store 5 5 28)]) (.seq (.seq (rg [om 29 0,om 30 4,oq 31 (Cl 251 [29,30]),om 6 31]) (.seq (rg [om 32 6,oq 33 (.eqn false true 32)]) (.cond 33 (.seq (rg [om 34 6,om 2 34]) .ret) .skip))) (.seq (rg [oq 35 (.fa 0 5),oq 36 (Ld 35),oq 37 (Cl 252 [36])]) (.condJ ⟨[.rowH 21 .int],[38,39,40,41,42,43,44,45,46,47,48,49,50,51],[],[]⟩ 37 (.seq (rg [om 38 3,oq 39 (.fa 3 5),oq 40 (Ld 39),oq 41 (.ia 1 38 40),oq 42 (Ld 41),oq 43 (Bi .add 42 (ci 1)),oq 44 (.ia 1 38 40),on (.store 1 44 43)]) (rg [om 45 3,oq 46 (.fa 4 5),oq 47 (Ld 46),oq 48 (.ia 1 45 47),oq 49 (Ld 48),oq 50 (Bi .add 49 (ci 1)),oq 51 (.ia 1 45 47),on (.store 1 51 50)])) .skip))))) (rg [oq 52 (Bi .add 24 (ci 1)),om 24 52])))))) (.seq (.seq (rg [om 53 3,oq 54 (Ln 53),om 55 (ci 0)]) (.loop ⟨[.slot 55 .int],[7,8,56,57,58,59,60,61,62,63,64,65,66,67,68,70],[],[]⟩ 3 (.seq (rg [oq 56 (Bi .lss 55 54)]) (.seq (.cond 56 .skip (.exit 3)) (.seq (.block 4 (.seq (rg [om 57 55,oq 58 (.ia 1 53 55),oq 59 (Ld 58),om 7 57,om 8 59]) (.seq (.regionJ ⟨[.slot 68 .bool],[60,61,62,63,64,65,66,67],[],[]⟩ [om 60 8,oq 61 (Bi .neq 60 (ci 1)),om 62 61,og 63 (.mov 7) 62 true [],og 64 (.mov 0) 62 true [],og 65 (Ln 64) 62 true [],og 66 (Bi .sub 65 (ci 1)) 62 true [],og 67 (Bi .lss 63 66) 62 true [],oq 68 (.pick 62 67 (cb false))] [] false) (.cond 68 (.seq (rg [oq 69 (.ifc 1 (ci 3)),om 2 69]) .ret) .skip)))) (rg [oq 70 (Bi .add 55 (ci 1)),om 55 70])))))) (.seq (rg [om 2 cz]) .ret))))) 
def tf241:TFunc:=⟨1,71,[.tmp 2],false,tc241,[]⟩
def zhT (a0:LN) (x1:(Int×LI)):Option (LR (Int×LI) Err) :=
 br (decide (x1.1<(a0.length:Int)))
 (bno (zu a0 x1.1) fun y2 =>
 bno (F251 a0 x1.1) fun y3 =>
 br (!(Err.isNil y3))
 (yk (some y3))
 (bno (F252 (Node.op y2)) fun y4 =>
 jn (σ:=(List Int)) (α:=(LR (Int×(List Int)) Err)) (br y4
 (ck (decide (0<=Node.left y2∧Node.left y2<(x1.2.length:Int))) <|
 bno ((x1.2)[(Int.toNat (Node.left y2))]?) fun y5 =>
 ck (decide (0<=Node.left y2∧Node.left y2<(x1.2.length:Int))) <|
 bno ((x1.2)[(Int.toNat (Node.left y2))]?) fun y6 =>
 ck (decide (0<=Node.right y2∧Node.right y2<((List.length (List.set x1.2 (Int.toNat (Node.left y2)) (wi (y5+(1:Int)))):Nat):Int))) <|
 bno ((List.set x1.2 (Int.toNat (Node.left y2)) (wi (y5+(1:Int))))[(Int.toNat (Node.right y2))]?) fun y7 =>
 ck (decide (0<=Node.right y2∧Node.right y2<((List.length (List.set x1.2 (Int.toNat (Node.left y2)) (wi (y5+(1:Int)))):Nat):Int))) <|
 bno ((List.set x1.2 (Int.toNat (Node.left y2)) (wi (y5+(1:Int))))[(Int.toNat (Node.right y2))]?) fun y8 =>
 zt (some (List.set (List.set x1.2 (Int.toNat (Node.left y2)) (wi (y5+(1:Int)))) (Int.toNat (Node.right y2)) (wi (y7+(1:Int))))))
 (zt (some x1.2))) fun x9 =>
 nxO (some (wi (x1.1+(1:Int)),x9))))
 (dnO (some (x1.1,x1.2)))
def zhS (a0:LN) (bn:(Int×LI)) (bY:Int):Option (LR Int Err) :=
 br (decide (bY<(bn.2.length:Int)))
 (ck (decide (0<=bY∧bY<(bn.2.length:Int))) <|
 bno ((bn.2)[(Int.toNat bY)]?) fun fY =>
 jn (σ:=Bool) (α:=(LR Int Err)) (br (decide (¬fY=(1:Int)))
 (zt (some (decide (bY<(wi ((a0.length:Int)-(1:Int)))))))
 (zt (some false))) fun bV =>
 br bV
 (yk (some (Err.no (3:Int))))
 (nxO (some (wi (bY+(1:Int))))))
 (dnO (some bY))
def S241 (a0:LN):Option Err :=
 br (decide ((a0.length:Int)=(0:Int)))
 (some (Err.no (5:Int)))
 (br (decide ((30:Int)<(a0.length:Int)))
 (some (Err.no (4:Int)))
 (ck (decide (0<=(a0.length:Int)∧(a0.length:Int)<=(a0.length:Int)∧(a0.length:Int)<=zC)) <|
 lp (zhT F251 F252 a0) ((0:Int),List.replicate (Int.toNat (a0.length:Int)) (0:Int)) fun bn =>
 lp (zhS a0 bn) (0:Int) fun te =>
 some Err.nil))
def P241:=S241 P251 P252
def k241:CSpec:=⟨241,[(.sl .node)],.err,fun x=>P241 x,false,[]⟩
def r241 {S:Seat} (h:Ok1 S 241 tf241):RtF S [k251,k252] (Rt S k241):=okr h
end
end
section
open Go Go.RowKit
def ErrIs (S:Seat) (e:Err) (u:Value):Prop :=
 match e with | .nil=>u=.nilIface | .no n=>∃T,u=.iface T (.int .i64 n)∧ql T S.tys=some 1 | .oth k=>∃T x,u=.iface T x∧ql T S.tys=some k
end
end Ab
