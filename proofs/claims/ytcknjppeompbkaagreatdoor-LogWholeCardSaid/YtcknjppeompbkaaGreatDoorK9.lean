import Derived.Test.YtcknjppeompbkaaGreatDoorMLo
set_option linter.all false
noncomputable section
namespace Ab
open Go
section
set_option maxRecDepth 100000
section
variable (F22:Int->(Option LD)) (F403:LD->(Option ((LD×LY×ByteArray×Int×Int×Bool)×Err))) (F404:(LD×LY×ByteArray×Int×Int×Bool)->(List Edit)->(Option ((LD×LY×ByteArray×Int×Int×Bool)×Err))) (F405:(LD×LY×ByteArray×Int×Int×Bool)->(Option ((LD×LY×ByteArray×Int×Int×Bool)×Int))) (F406:(LD×LY×ByteArray×Int×Int×Bool)->(Option ((LD×LY×ByteArray×Int×Int×Bool)×LY))) (F92:Err->Int->(Option Bool))
def tc412:TCode:=.seq (rg [om 4 (cb false)]) (.seq (rg [oq 11 (.call true [] 22 [(ci 3)]),oq 12 (.callo 1 403 [11]),om 10 12,oq 13 (.ext 10 0),oq 14 (.ext 10 1),om 5 13,om 6 14]) (.seq (.seq (.regionJ ⟨[.slot 24 .bool],[15,16,17,18,19,20,21,22,23],[],[]⟩ [om 15 6,oq 16 (.eqn false true 15),om 17 16,og 18 (.mov 0) 17 false [],og 19 (.bin .int .lss 18 (ci 0)) 17 false [],oq 20 (.pick 17 (cb true) 19),om 21 20,og 22 (.mov 0) 21 false [],og 23 (.bin .int .gtr 22 (ci 9)) 21 false [],oq 24 (.pick 21 (cb true) 23)] [] false) (.cond 24 (.seq (rg [om 25 6,oq 26 (.eqn false false 25),om 4 26]) (.ret)) (.skip))) (.seq (rg [om 7 cn]) (.seq (.seq (rg [om 8 (ci 0)]) (.loop ⟨[.row 7 49 .edit,.slot 8 .int],[9,27,28,29,30,31,32,33,34,35,36,37,38,39,40,41,42,43,44,45,46,47,48,49],[9,38,44,48],[]⟩ 0 (.seq (.seq (rg [om 27 8,om 28 0,oq 29 (.bin .int .lss 27 28)]) (.cond 29 (.skip) (.exit 0))) (.seq (.block 1 (.seq (rg [om 32 8,oq 33 (.bin .int .quo 32 (ci 3)),oq 34 (.bin .int .add (ci 1) 33),om 35 8,oq 36 (.bin .int .rem 35 (ci 3)),oq 37 (.bin .int .add (ci 1) 36),oq 38 (.bslice false 1 [.int .i64 0] 2 [(0,34),(1,37)]),om 39 8,oq 40 (.build [.slice none 0 0,.int .i64 0,.bool false] [(0,1,38),(1,1,39)]),oq 9 (.alloc [.slice none 0 0,.int .i64 0,.bool false]),on (.store 3 9 40)]) (.seq (.seq (rg [om 41 8,om 42 1,oq 43 (.bin .int .eql 41 42)]) (.condJ ⟨[.var 9 [.sh (.sl .int),.sh .int,.sh .bool]],[44,45],[44,38],[38,44]⟩ 43 (rg [oq 44 (.bslice false 1 [.int .i64 0] 2 [(0,(ci 0)),(1,(ci 1))]),oq 45 (.fa 0 9),on (.store 1 45 44)]) (.skip))) (.region [om 46 7,oq 47 (.load (some 3) 9),oq 48 (.bslice true 3 [.slice none 0 0,.int .i64 0,.bool false] 1 [(0,47)]),oq 49 (.app 3 46 48),om 7 49] [.int,.int,.edit,.edit] false)))) (rg [om 30 8,oq 31 (.bin .int .add 30 (ci 1)),om 8 31]))))) (.seq (rg [om 50 5,om 51 7,oq 52 (.callo 0 404 [50,51]),om 6 52]) (.seq (.seq (.regionJ ⟨[.slot 59 .bool],[53,54,55,56,57,58],[],[]⟩ [om 53 1,oq 54 (.bin .int .geq 53 (ci 0)),om 55 54,og 56 (.mov 1) 55 true [],og 57 (.mov 0) 55 true [],og 58 (.bin .int .lss 56 57) 55 true [],oq 59 (.pick 55 58 (cb false))] [] false) (.cond 59 (.seq (.regionJ ⟨[.slot 4 .bool],[60,61,62,63,64,65,66,67,68,69,70,71,72],[12,69],[]⟩ [om 60 6,oq 61 (.call false [] 92 [60,(ci 6)]),om 62 61,og 63 (.mov 5) 62 true [],og 64 (.callo 0 405 [63]) 62 true [],og 65 (.bin .int .eql 64 (ci 0)) 62 true [],oq 66 (.pick 62 65 (cb false)),om 67 66,og 68 (.mov 5) 67 true [],og 69 (.callo 0 406 [68]) 67 true [],og 70 (.len false 69) 67 true [],og 71 (.bin .int .eql 70 (ci 0)) 67 true [],oq 72 (.pick 67 71 (cb false)),om 4 72] [] false) (.ret)) (.skip))) (.seq (.regionJ ⟨[.slot 4 .bool],[73,74,75,76,77,78,79,80,81,82,83,84,85,86],[12,82],[]⟩ [om 73 6,oq 74 (.eqn false false 73),om 75 74,og 76 (.mov 5) 75 true [],og 77 (.callo 0 405 [76]) 75 true [],og 78 (.bin .int .geq 77 (ci 2)) 75 true [],oq 79 (.pick 75 78 (cb false)),om 80 79,og 81 (.mov 5) 80 true [],og 82 (.callo 0 406 [81]) 80 true [],og 83 (.len false 82) 80 true [],og 84 (.mov 0) 80 true [],og 85 (.bin .int .eql 83 84) 80 true [],oq 86 (.pick 80 85 (cb false)),om 4 86] [] false) (.ret)))))))) 
def tf412:TFunc:=⟨2,87,[.tmp 4],false,tc412,[]⟩
def zds (a0:Int) (a1:Int) (x4:((List Edit)×Int)):Option (LR ((List Edit)×Int) Bool) :=
 br (decide (x4.2 < a0))
 (ck (decide (¬ (3:Int)=0)) <|
 ck (decide (¬ (3:Int)=0)) <|
 jn (σ:=((List Int)×Int×Bool)) (α:=(LR ((List Edit)×Int) Bool)) (br (decide (x4.2=a1))
 (zD (some (([(0:Int),(1:Int)]:List Int),x4.2,false)))
 (zD (some (([wi ((1:Int)+(wi (Int.tdiv x4.2 (3:Int)))),wi ((1:Int)+(Int.tmod x4.2 (3:Int)))]:List Int),x4.2,false)))) fun x5 =>
 ck (decide (List.length x4.1+List.length ([Edit.mk x5.1 x5.2.1 x5.2.2]:List Edit)<=wD)) <|
 nxO (some (x4.1++([Edit.mk x5.1 x5.2.1 x5.2.2]:List Edit),wi (x4.2+(1:Int)))))
 (dnO (some (x4.1,x4.2)))
def S412_L2 (a0:Int) (a1:Int) (eA:((List Edit)×Int)):Option (LR ((List Edit)×Int) Bool) :=
 br (decide (eA.2 < a0))
 (ck (decide (¬ (3:Int)=0)) <|
 ck (decide (¬ (3:Int)=0)) <|
 jn (σ:=((List Int)×Int×Bool)) (α:=(LR ((List Edit)×Int) Bool)) (br (decide (eA.2=a1))
 (zD (some (([(0:Int),(1:Int)]:List Int),eA.2,false)))
 (zD (some (([wi ((1:Int)+(wi (Int.tdiv eA.2 (3:Int)))),wi ((1:Int)+(Int.tmod eA.2 (3:Int)))]:List Int),eA.2,false)))) fun fY =>
 ck (decide (List.length eA.1+List.length ([Edit.mk fY.1 fY.2.1 fY.2.2]:List Edit)<=wD)) <|
 nxO (some (eA.1++([Edit.mk fY.1 fY.2.1 fY.2.2]:List Edit),wi (eA.2+(1:Int)))))
 (dnO (some (eA.1,eA.2)))
def S412 (a0:Int) (a1:Int):Option Bool :=
 bno (F22 (3:Int)) fun y1 =>
 bno (F403 y1) fun y2 =>
 br (Err.isNil y2.2)
 (jn (σ:=Bool) (α:=Bool) (br (decide (a0 < (0:Int)))
 (zD (some true))
 (zD (some (decide ((9:Int) < a0))))) fun x3 =>
 br x3
 (some true)
 (lp (zds a0 a1) (([]:List Edit),(0:Int)) fun x6 =>
 bno (F404 y2.1 x6.1) fun y7 =>
 jn (σ:=Bool) (α:=Bool) (br (decide ((0:Int)<=a1))
 (zD (some (decide (a1 < a0))))
 (zD (some false))) fun x8 =>
 br x8
 (jn (σ:=Bool) (α:=Bool) (bno (F92 y7.2 (6:Int)) fun y9 =>
 br y9
 (bno (F405 y7.1) fun fD =>
 br (decide (fD.2=(0:Int)))
 (bno (F406 fD.1) fun iA =>
 zD (some (decide ((iA.2.length:Int)=(0:Int)))))
 (zD (some false)))
 (zD (some false))) fun kL =>
 some kL)
 (jn (σ:=Bool) (α:=Bool) (br (Err.isNil y7.2)
 (bno (F405 y7.1) fun fi =>
 br (decide ((2:Int)<=fi.2))
 (bno (F406 fi.1) fun iz =>
 zD (some (decide ((iz.2.length:Int)=a0))))
 (zD (some false)))
 (zD (some false))) fun gO =>
 some gO)))
 (jn (σ:=Bool) (α:=Bool) (br (!(Err.isNil y2.2))
 (zD (some true))
 (br (decide (a0 < (0:Int)))
 (zD (some true))
 (zD (some (decide ((9:Int) < a0)))))) fun fE =>
 br fE
 (some (Err.isNil y2.2))
 (lp (S412_L2 a0 a1) (([]:List Edit),(0:Int)) fun x19 =>
 none))
def P412:=S412 P22 P403 P404 P405 P406 P92
def k412:CSpec:=⟨412,[.int,.int],.bool,fun x=>P412 x.1 x.2,false,[]⟩
def r412 {S:Seat} (h:Ok1 S 412 tf412):RtF S [k22,k403,k404,k405,k406,k92] (Rt S k412):=okr h rfl fun x=>by kernel_rfl
end
end
section
-- to whom it refers
section
variable {l:List Node}
end
end
end Ab
