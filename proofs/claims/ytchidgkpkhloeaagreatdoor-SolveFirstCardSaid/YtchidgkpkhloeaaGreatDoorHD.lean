import Derived.Test.YtchidgkpkhloeaaGreatDoorB2
import Derived.KernelRfl
import Derived.Test.YtchidgkpkhloeaaGreatDoorF1
section
namespace Ab
open Go
set_option linter.unusedVariables false
set_option maxRecDepth 100000
def tc252:TCode :=
 .seq (.region [
 oq 2 (.mov (.c (.bool false)))] [] false)
  (.seq (.regionJ ⟨[.slot 2 .bool],[3,4,5,6,7,8],[],[]⟩ [
 oq 3 (.mov (.t 0)),
 oq 4 (.bin .int .geq (.t 3) (.c (.int .i64 3))),
 oq 5 (.mov (.t 4)),
  ⟨some 6,.mov (.t 0),(some (5,true)),[]⟩,
  ⟨some 7,.bin .int .leq (.t 6) (.c (.int .i64 6)),(some (5,true)),[]⟩,
 oq 8 (.pick (.t 5) (.t 7) (.c (.bool false))),
 oq 2 (.mov (.t 8))] [] false)
  (.ret))
def tf252:TFunc:={ np:=1,nt:=9,res:=[.tmp 2],own:=false,body:=tc252 }
noncomputable def S252 (a0:Int):Option Bool :=
 jn (σ:=Bool) (α:=Bool) (br (decide ((3:Int)≤a0))
 (inlO (some (decide (a0≤(6:Int)))))
 (inlO (some false))) fun x1 =>
 some x1
theorem s252 (a0:Int):tf252.run [] [.int] .bool a0=S252 a0:=by kernel_rfl
noncomputable def P252 (a0:Int):Option Bool:=S252 a0
noncomputable def k252:CSpec:=⟨252,[.int],.bool,fun x=>P252 x,false,[]⟩
theorem r252 {S:Seat} (h:Ok1 S 252 tf252):Rt S k252:=fun x y hy =>
 Ok1.sound h (C:=[]) CSound.nil rfl rfl rfl ((s252 x).trans hy) rfl
def tc241:TCode :=
 .seq (.region [
 oq 2 (.mov (.c (.nilIface)))] [] false)
  (.seq (.block 0 (.seq (.region [
 oq 10 (.mov (.t 0)),
 oq 11 (.len false (.t 10)),
 oq 12 (.bin .int .eql (.t 11) (.c (.int .i64 0))),
 oq 9 (.mov (.t 12))] [] false)
    (.cond (.t 9)
     (.seq (.region [
 oq 13 (.ifc 1 (.c (.int .i64 5))),
 oq 2 (.mov (.t 13))] [] false)
      (.ret))
      (.seq (.region [
 oq 15 (.mov (.t 0)),
 oq 16 (.len false (.t 15)),
 oq 17 (.bin .int .gtr (.t 16) (.c (.int .i64 30))),
 oq 14 (.mov (.t 17))] [] false)
   (.cond (.t 14)
    (.seq (.region [
 oq 18 (.ifc 1 (.c (.int .i64 4))),
 oq 2 (.mov (.t 18))] [] false)
   (.ret))
   (.skip))))))
  (.seq (.region [
 oq 19 (.mov (.t 0)),
 oq 20 (.len false (.t 19)),
 oq 21 (.mksl 1 [.int .i64 0] (.t 20) (.t 20)),
 oq 3 (.mov (.t 21))] [] false)
  (.seq (.seq (.region [
 oq 22 (.mov (.t 0)),
 oq 23 (.len false (.t 22)),
 oq 24 (.mov (.c (.int .i64 0)))] [] false)
  (.loop ⟨[.slot 24 .int,.rowH 21 .int],[4,5,6,25,26,27,28,29,30,31,32,33,35,36,37,38,39,40,41,42,43,44,45,46,47,48,49,50,51,52],[5],[]⟩ 1 (.seq (.region [
 oq 25 (.bin .int .lss (.t 24) (.t 23))] [] false)
    (.seq (.cond (.t 25)
     (.skip)
     (.exit 1))
    (.seq (.block 2 (.seq (.region [
 oq 26 (.mov (.t 24)),
 oq 27 (.ia 5 (.t 22) (.t 24)),
 oq 28 (.load (some 5) (.t 27)),
 oq 5 (.alloc [.int .i64 0,.int .i64 0,.string ⟨#[]⟩,.int .i64 0,.int .i64 0]),
 oq 4 (.mov (.t 26)),
  ⟨none,.store 5 (.t 5) (.t 28),none,[]⟩] [] false)
    (.seq (.seq (.region [
 oq 29 (.mov (.t 0)),
 oq 30 (.mov (.t 4)),
 oq 31 (.call false [] 251 [(.t 29),(.t 30)]),
 oq 6 (.mov (.t 31))] [] false)
      (.seq (.region [
 oq 32 (.mov (.t 6)),
 oq 33 (.eqn false true (.t 32))] [] false)
   (.cond (.t 33)
    (.seq (.region [
 oq 34 (.mov (.t 6)),
 oq 2 (.mov (.t 34))] [] false)
   (.ret))
   (.skip))))
      (.seq (.region [
 oq 35 (.fa 0 (.t 5)),
 oq 36 (.load none (.t 35)),
 oq 37 (.call false [] 252 [(.t 36)])] [] false)
   (.condJ ⟨[.rowH 21 .int],[38,39,40,41,42,43,44,45,46,47,48,49,50,51],[],[]⟩ (.t 37)
    (.seq (.region [
 oq 38 (.mov (.t 3)),
 oq 39 (.fa 3 (.t 5)),
 oq 40 (.load none (.t 39)),
 oq 41 (.ia 1 (.t 38) (.t 40)),
 oq 42 (.load none (.t 41)),
 oq 43 (.bin .int .add (.t 42) (.c (.int .i64 1))),
 oq 44 (.ia 1 (.t 38) (.t 40)),
  ⟨none,.store 1 (.t 44) (.t 43),none,[]⟩] [] false)
    (.region [
 oq 45 (.mov (.t 3)),
 oq 46 (.fa 4 (.t 5)),
 oq 47 (.load none (.t 46)),
 oq 48 (.ia 1 (.t 45) (.t 47)),
 oq 49 (.load none (.t 48)),
 oq 50 (.bin .int .add (.t 49) (.c (.int .i64 1))),
 oq 51 (.ia 1 (.t 45) (.t 47)),
  ⟨none,.store 1 (.t 51) (.t 50),none,[]⟩] [] false))
    (.skip))))))
   (.region [
 oq 52 (.bin .int .add (.t 24) (.c (.int .i64 1))),
 oq 24 (.mov (.t 52))] [] false))))))
  (.seq (.seq (.region [
 oq 53 (.mov (.t 3)),
 oq 54 (.len false (.t 53)),
 oq 55 (.mov (.c (.int .i64 0)))] [] false)
  (.loop ⟨[.slot 55 .int],[7,8,56,57,58,59,60,61,62,63,64,65,66,67,68,70],[],[]⟩ 3 (.seq (.region [
 oq 56 (.bin .int .lss (.t 55) (.t 54))] [] false)
    (.seq (.cond (.t 56)
     (.skip)
     (.exit 3))
    (.seq (.block 4 (.seq (.region [
 oq 57 (.mov (.t 55)),
 oq 58 (.ia 1 (.t 53) (.t 55)),
 oq 59 (.load none (.t 58)),
 oq 7 (.mov (.t 57)),
 oq 8 (.mov (.t 59))] [] false)
      (.seq (.regionJ ⟨[.slot 68 .bool],[60,61,62,63,64,65,66,67],[],[]⟩ [
 oq 60 (.mov (.t 8)),
 oq 61 (.bin .int .neq (.t 60) (.c (.int .i64 1))),
 oq 62 (.mov (.t 61)),
  ⟨some 63,.mov (.t 7),(some (62,true)),[]⟩,
  ⟨some 64,.mov (.t 0),(some (62,true)),[]⟩,
  ⟨some 65,.len false (.t 64),(some (62,true)),[]⟩,
  ⟨some 66,.bin .int .sub (.t 65) (.c (.int .i64 1)),(some (62,true)),[]⟩,
  ⟨some 67,.bin .int .lss (.t 63) (.t 66),(some (62,true)),[]⟩,
 oq 68 (.pick (.t 62) (.t 67) (.c (.bool false)))] [] false)
   (.cond (.t 68)
    (.seq (.region [
 oq 69 (.ifc 1 (.c (.int .i64 3))),
 oq 2 (.mov (.t 69))] [] false)
   (.ret))
   (.skip)))))
    (.region [
 oq 70 (.bin .int .add (.t 55) (.c (.int .i64 1))),
 oq 55 (.mov (.t 70))] [] false))))))
  (.seq (.region [
 oq 2 (.mov (.c (.nilIface)))] [] false)
  (.ret))))))
def tf241:TFunc:={ np:=1,nt:=71,res:=[.tmp 2],own:=false,body:=tc241 }
noncomputable def S241_L1 (F251:(List Node)→Int→(Option Err)) (F252:Int→(Option Bool)) (a0:(List Node)) (x1:(Int×(List Int))):Option (LR (Int×(List Int)) Err) :=
 br (decide (x1.1 < ((List.length a0:Nat):Int)))
 (bno (lookI a0 x1.1) fun y2 =>
 bno (F251 a0 x1.1) fun y3 =>
 br (!(Err.isNil y3))
 (finO (some y3))
 (bno (F252 (Node.op y2)) fun y4 =>
 jn (σ:=(List Int)) (α:=(LR (Int×(List Int)) Err)) (br y4
 (ck (decide (0≤Node.left y2∧Node.left y2 < ((List.length x1.2:Nat):Int))) <|
 bno ((x1.2)[(Int.toNat (Node.left y2))]?) fun y5 =>
 ck (decide (0≤Node.left y2∧Node.left y2 < ((List.length x1.2:Nat):Int))) <|
 bno ((x1.2)[(Int.toNat (Node.left y2))]?) fun y6 =>
 ck (decide (0≤Node.right y2∧Node.right y2 < ((List.length (List.set x1.2 (Int.toNat (Node.left y2)) (wi (y5+(1:Int)))):Nat):Int))) <|
 bno ((List.set x1.2 (Int.toNat (Node.left y2)) (wi (y5+(1:Int))))[(Int.toNat (Node.right y2))]?) fun y7 =>
 ck (decide (0≤Node.right y2∧Node.right y2 < ((List.length (List.set x1.2 (Int.toNat (Node.left y2)) (wi (y5+(1:Int)))):Nat):Int))) <|
 bno ((List.set x1.2 (Int.toNat (Node.left y2)) (wi (y5+(1:Int))))[(Int.toNat (Node.right y2))]?) fun y8 =>
 inlO (some (List.set (List.set x1.2 (Int.toNat (Node.left y2)) (wi (y5+(1:Int)))) (Int.toNat (Node.right y2)) (wi (y7+(1:Int))))))
 (inlO (some x1.2))) fun x9 =>
 nxO (some (wi (x1.1+(1:Int)),x9))))
 (dnO (some (x1.1,x1.2)))
noncomputable def S241_L2 (a0:(List Node)) (x10:(Int×(List Int))) (x11:Int):Option (LR Int Err) :=
 br (decide (x11 < ((List.length x10.2:Nat):Int)))
 (ck (decide (0≤x11∧x11 < ((List.length x10.2:Nat):Int))) <|
 bno ((x10.2)[(Int.toNat x11)]?) fun y12 =>
 jn (σ:=Bool) (α:=(LR Int Err)) (br (decide (¬ y12=(1:Int)))
 (inlO (some (decide (x11 < (wi (((List.length a0:Nat):Int) - (1:Int)))))))
 (inlO (some false))) fun x13 =>
 br x13
 (finO (some (Err.no (3:Int))))
 (nxO (some (wi (x11+(1:Int))))))
 (dnO (some x11))
noncomputable def S241 (F251:(List Node)→Int→(Option Err)) (F252:Int→(Option Bool)) (a0:(List Node)):Option Err :=
 br (decide (((List.length a0:Nat):Int)=(0:Int)))
 (some (Err.no (5:Int)))
 (br (decide ((30:Int) < ((List.length a0:Nat):Int)))
 (some (Err.no (4:Int)))
 (ck (decide (0≤((List.length a0:Nat):Int)∧((List.length a0:Nat):Int)≤((List.length a0:Nat):Int)∧((List.length a0:Nat):Int)≤roomA)) <|
 lp (S241_L1 F251 F252 a0) ((0:Int),List.replicate (Int.toNat ((List.length a0:Nat):Int)) (0:Int)) fun x10 =>
 lp (S241_L2 a0 x10) (0:Int) fun x14 =>
 some Err.nil))
theorem s241 (F251:(List Node)→Int→(Option Err)) (F252:Int→(Option Bool)) (a0:(List Node)):tf241.run [⟨251,[(.sl .node),.int],.err,fun x=>F251 x.1 x.2,false,[]⟩,
 ⟨252,[.int],.bool,fun x=>F252 x,false,[]⟩] [(.sl .node)] .err a0=S241 F251 F252 a0:=by kernel_rfl
noncomputable def P241 (a0:(List Node)):Option Err:=S241 P251 P252 a0
noncomputable def k241:CSpec:=⟨241,[(.sl .node)],.err,fun x=>P241 x,false,[]⟩
theorem r241 {S:Seat} (h:Ok1 S 241 tf241) (h251:Rt S k251) (h252:Rt S k252):Rt S k241:=fun x y hy =>
 Ok1.sound h (C:=[k251,k252]) (CSound.cons h251 (CSound.cons h252 CSound.nil)) rfl rfl rfl ((s241 P251 P252 x).trans hy) rfl
end Ab
end
section
namespace Ab
open Go Go.RowKit
set_option linter.unusedVariables false
set_option linter.unusedSimpArgs false
def ErrIs (S:Seat) (e:Err) (u:Value):Prop :=
 match e with | .nil=>u=.nilIface | .no n=>∃ T,u=.iface T (.int .i64 n)∧assoc T S.tys=some 1 | .oth k=>∃ T x,u=.iface T x∧assoc T S.tys=some k
end Ab
end
