import Derived.Test.YtchidgkpkhloeaaGreatDoorB2
import Derived.KernelRfl
import Derived.Test.YtchidgkpkhloeaaGreatDoorHB
import Derived.Test.YtchidgkpkhloeaaGreatDoorC2
section
namespace Ab
open Go
set_option linter.unusedVariables false
set_option maxRecDepth 100000
def tc84:TCode :=
 .seq (.region [
 oq 2 (.mov (.c (.bool false)))] [] false)
  (.seq (.region [
 oq 3 (.mov (.t 0)),
 oq 4 (.mov (.t 0)),
 oq 5 (.bin .int .neq (.t 3) (.t 4)),
 oq 2 (.mov (.t 5))] [] false)
  (.ret))
def tf84:TFunc:={ np:=1,nt:=6,res:=[.tmp 2],own:=false,body:=tc84 }
noncomputable def S84 (a0:Int):Option Bool :=
 some (decide (¬ a0=a0))
theorem s84 (a0:Int):tf84.run [] [.int] .bool a0=S84 a0:=by kernel_rfl
noncomputable def P84 (a0:Int):Option Bool:=S84 a0
noncomputable def k84:CSpec:=⟨84,[.int],.bool,fun x=>P84 x,false,[]⟩
theorem r84 {S:Seat} (h:Ok1 S 84 tf84):Rt S k84:=fun x y hy =>
 Ok1.sound h (C:=[]) CSound.nil rfl rfl rfl ((s84 x).trans hy) rfl
def tc81:TCode :=
 .seq (.region [
 oq 4 (.mov (.c (.int .i64 0)))] [] false)
  (.seq (.region [
 oq 7 (.mov (.t 0)),
 oq 8 (.call false [] 84 [(.t 7)]),
 oq 5 (.mov (.t 8))] [] false)
  (.seq (.region [
 oq 9 (.mov (.t 1)),
 oq 10 (.call false [] 84 [(.t 9)]),
 oq 6 (.mov (.t 10))] [] false)
  (.seq (.seq (.region [
 oq 11 (.mov (.t 5))] [] false)
  (.cond (.t 11)
   (.seq (.seq (.region [
 oq 12 (.mov (.t 6))] [] false)
    (.cond (.t 12)
     (.seq (.region [
 oq 4 (.mov (.c (.int .i64 0)))] [] false)
      (.ret))
      (.skip)))
    (.seq (.region [
 oq 4 (.mov (.c (.int .i64 (-1))))] [] false)
    (.ret)))
    (.skip)))
  (.seq (.seq (.region [
 oq 13 (.mov (.t 6))] [] false)
  (.cond (.t 13)
   (.seq (.region [
 oq 4 (.mov (.c (.int .i64 1)))] [] false)
    (.ret))
    (.skip)))
  (.seq (.seq (.region [
 oq 14 (.mov (.t 0)),
 oq 15 (.mov (.t 1)),
 oq 16 (.bin .int .lss (.t 14) (.t 15))] [] false)
  (.cond (.t 16)
   (.seq (.region [
 oq 4 (.mov (.c (.int .i64 (-1))))] [] false)
    (.ret))
    (.skip)))
  (.seq (.seq (.region [
 oq 17 (.mov (.t 0)),
 oq 18 (.mov (.t 1)),
 oq 19 (.bin .int .gtr (.t 17) (.t 18))] [] false)
  (.cond (.t 19)
   (.seq (.region [
 oq 4 (.mov (.c (.int .i64 1)))] [] false)
    (.ret))
    (.skip)))
  (.seq (.region [
 oq 4 (.mov (.c (.int .i64 0)))] [] false)
  (.ret))))))))
def tf81:TFunc:={ np:=2,nt:=20,res:=[.tmp 4],own:=false,body:=tc81 }
noncomputable def S81 (F84:Int→(Option Bool)) (a0:Int) (a1:Int):Option Int :=
 bno (F84 a0) fun y1 =>
 bno (F84 a1) fun y2 =>
 br y1
 (br y2
 (some (0:Int))
 (some (-1:Int)))
 (br y2
 (some (1:Int))
 (br (decide (a0 < a1))
 (some (-1:Int))
 (br (decide (a1 < a0))
 (some (1:Int))
 (some (0:Int)))))
theorem s81 (F84:Int→(Option Bool)) (a0:Int) (a1:Int):tf81.run [⟨84,[.int],.bool,fun x=>F84 x,false,[]⟩] [.int,.int] .int (a0,a1)=S81 F84 a0 a1:=by kernel_rfl
noncomputable def P81 (a0:Int) (a1:Int):Option Int:=S81 P84 a0 a1
noncomputable def k81:CSpec:=⟨81,[.int,.int],.int,fun x=>P81 x.1 x.2,false,[]⟩
theorem r81 {S:Seat} (h:Ok1 S 81 tf81) (h84:Rt S k84):Rt S k81:=fun x y hy =>
 Ok1.sound h (C:=[k84]) (CSound.cons h84 CSound.nil) rfl rfl rfl ((s81 P84 x.1 x.2).trans hy) rfl
def tc74:TCode :=
 .seq (.region [
 oq 4 (.mov (.c (.int .i64 0)))] [] false)
  (.seq (.seq (.region [
 oq 9 (.mov (.t 0)),
 oq 10 (.len false (.t 9)),
 oq 11 (.mov (.c (.int .i64 0)))] [] false)
  (.loop ⟨[.slot 11 .int],[5,6,7,8,12,13,14,15,16,17,18,19,20,21,22,23,24,25,26,27,28,30],[],[]⟩ 0 (.seq (.region [
 oq 12 (.bin .int .lss (.t 11) (.t 10))] [] false)
    (.seq (.cond (.t 12)
     (.skip)
     (.exit 0))
    (.seq (.block 1 (.seq (.region [
 oq 13 (.mov (.t 11)),
 oq 14 (.ia 1 (.t 9) (.t 11)),
 oq 15 (.load none (.t 14)),
 oq 5 (.mov (.t 13)),
 oq 6 (.mov (.t 15))] [] false)
      (.seq (.seq (.region [
 oq 16 (.mov (.t 5)),
 oq 17 (.mov (.t 1)),
 oq 18 (.len false (.t 17)),
 oq 19 (.bin .int .geq (.t 16) (.t 18))] [] false)
   (.cond (.t 19)
    (.seq (.region [
 oq 4 (.mov (.c (.int .i64 1)))] [] false)
   (.ret))
   (.skip)))
      (.seq (.region [
 oq 20 (.mov (.t 1)),
 oq 21 (.mov (.t 5)),
 oq 22 (.ia 1 (.t 20) (.t 21)),
 oq 23 (.load none (.t 22)),
 oq 7 (.mov (.t 23))] [] false)
      (.seq (.region [
 oq 24 (.mov (.t 6)),
 oq 25 (.mov (.t 7)),
 oq 26 (.call false [] 81 [(.t 24),(.t 25)]),
 oq 8 (.mov (.t 26))] [] false)
      (.seq (.region [
 oq 27 (.mov (.t 8)),
 oq 28 (.bin .int .neq (.t 27) (.c (.int .i64 0)))] [] false)
   (.cond (.t 28)
    (.seq (.region [
 oq 29 (.mov (.t 8)),
 oq 4 (.mov (.t 29))] [] false)
   (.ret))
   (.skip))))))))
    (.region [
 oq 30 (.bin .int .add (.t 11) (.c (.int .i64 1))),
 oq 11 (.mov (.t 30))] [] false))))))
  (.seq (.seq (.region [
 oq 31 (.mov (.t 0)),
 oq 32 (.len false (.t 31)),
 oq 33 (.mov (.t 1)),
 oq 34 (.len false (.t 33)),
 oq 35 (.bin .int .lss (.t 32) (.t 34))] [] false)
  (.cond (.t 35)
   (.seq (.region [
 oq 4 (.mov (.c (.int .i64 (-1))))] [] false)
    (.ret))
    (.skip)))
  (.seq (.region [
 oq 4 (.mov (.c (.int .i64 0)))] [] false)
  (.ret))))
def tf74:TFunc:={ np:=2,nt:=36,res:=[.tmp 4],own:=false,body:=tc74 }
noncomputable def S74_L1 (F81:Int→Int→(Option Int)) (a0:(List Int)) (a1:(List Int)) (x1:Int):Option (LR Int Int) :=
 br (decide (x1 < ((List.length a0:Nat):Int)))
 (bno (lookI a0 x1) fun y2 =>
 br (decide (((List.length a1:Nat):Int)≤x1))
 (finO (some (1:Int)))
 (bno (lookI a1 x1) fun y3 =>
 bno (F81 y2 y3) fun y4 =>
 br (decide (¬ y4=(0:Int)))
 (finO (some y4))
 (nxO (some (wi (x1+(1:Int)))))))
 (dnO (some x1))
noncomputable def S74 (F81:Int→Int→(Option Int)) (a0:(List Int)) (a1:(List Int)):Option Int :=
 lp (S74_L1 F81 a0 a1) (0:Int) fun x5 =>
 br (decide (((List.length a0:Nat):Int) < ((List.length a1:Nat):Int)))
 (some (-1:Int))
 (some (0:Int))
theorem s74 (F81:Int→Int→(Option Int)) (a0:(List Int)) (a1:(List Int)):tf74.run [⟨81,[.int,.int],.int,fun x=>F81 x.1 x.2,false,[]⟩] [(.sl .int),(.sl .int)] .int (a0,a1)=S74 F81 a0 a1:=by kernel_rfl
noncomputable def P74 (a0:(List Int)) (a1:(List Int)):Option Int:=S74 P81 a0 a1
noncomputable def k74:CSpec:=⟨74,[(.sl .int),(.sl .int)],.int,fun x=>P74 x.1 x.2,false,[]⟩
theorem r74 {S:Seat} (h:Ok1 S 74 tf74) (h81:Rt S k81):Rt S k74:=fun x y hy =>
 Ok1.sound h (C:=[k81]) (CSound.cons h81 CSound.nil) rfl rfl rfl ((s74 P81 x.1 x.2).trans hy) rfl
def tc61:TCode :=
 .seq (.region [
 oq 2 (.box (.t 0)),
 oq 3 (.box (.t 1)),
 oq 4 (.mov (.c (.int .i64 0)))] [] false)
  (.seq (.region [
 oq 5 (.fa 0 (.t 2)),
 oq 6 (.load none (.t 5)),
 oq 7 (.fa 0 (.t 3)),
 oq 8 (.load none (.t 7)),
 oq 9 (.call false [] 74 [(.t 6),(.t 8)]),
 oq 4 (.mov (.t 9))] [] false)
  (.ret))
def tf61:TFunc:={ np:=2,nt:=10,res:=[.tmp 4],own:=false,body:=tc61 }
noncomputable def S61 (F74:(List Int)→(List Int)→(Option Int)) (a0:Entry) (a1:Entry):Option Int :=
 bno (F74 (Entry.at_ a0) (Entry.at_ a1)) fun y1 =>
 some y1
theorem s61 (F74:(List Int)→(List Int)→(Option Int)) (a0:Entry) (a1:Entry):tf61.run [⟨74,[(.sl .int),(.sl .int)],.int,fun x=>F74 x.1 x.2,false,[]⟩] [(.st .entry),(.st .entry)] .int (a0,a1)=S61 F74 a0 a1:=by kernel_rfl
noncomputable def P61 (a0:Entry) (a1:Entry):Option Int:=S61 P74 a0 a1
noncomputable def k61:CSpec:=⟨61,[(.st .entry),(.st .entry)],.int,fun x=>P61 x.1 x.2,false,[]⟩
theorem r61 {S:Seat} (h:Ok1 S 61 tf61) (h74:Rt S k74):Rt S k61:=fun x y hy =>
 Ok1.sound h (C:=[k74]) (CSound.cons h74 CSound.nil) rfl rfl rfl ((s61 P74 x.1 x.2).trans hy) rfl
def tc80:TCode :=
 .seq (.region [
 oq 4 (.box (.t 1)),
 oq 6 (.mov (.c (.int .i64 0))),
 oq 7 (.mov (.c (.bool false)))] [] false)
  (.seq (.region [
 oq 12 (.mov (.t 0)),
 oq 13 (.len false (.t 12)),
 oq 8 (.mov (.t 13))] [] false)
  (.seq (.region [
 oq 14 (.mov (.t 8)),
 oq 9 (.mov (.c (.int .i64 0))),
 oq 10 (.mov (.t 14))] [] false)
  (.seq (.loop ⟨[.slot 9 .int,.slot 10 .int],[11,15,16,17,18,19,20,21,22,23,24,25,26,27,28,29,30,31,32,33,34],[],[]⟩ 0 (.seq (.seq (.region [
 oq 15 (.mov (.t 9)),
 oq 16 (.mov (.t 10)),
 oq 17 (.bin .int .lss (.t 15) (.t 16))] [] false)
    (.cond (.t 17)
     (.skip)
     (.exit 0)))
    (.block 1 (.seq (.region [
 oq 18 (.mov (.t 9)),
 oq 19 (.mov (.t 10)),
 oq 20 (.bin .int .add (.t 18) (.t 19)),
 oq 21 (.cvi .u64 (.t 20)),
 oq 22 (.bin .int .shr (.t 21) (.c (.int .u64 1))),
 oq 23 (.cvi .i64 (.t 22)),
 oq 11 (.mov (.t 23))] [] false)
   (.seq (.region [
 oq 24 (.mov (.t 2)),
 oq 25 (.mov (.t 0)),
 oq 26 (.mov (.t 11)),
  ⟨some 27,.ia 2 (.t 25) (.t 26),none,[1,2]⟩,
  ⟨some 28,.load (some 2) (.t 27),none,[3]⟩,
 oq 29 (.load (some 2) (.t 4)),
  ⟨some 30,.calld false (.t 24) [(.t 28),(.t 29)],none,[0,4,5]⟩,
  ⟨some 31,.bin .int .lss (.t 30) (.c (.int .i64 0)),none,[6]⟩] [] true)
    (.condJ ⟨[.slot 9 .int,.slot 10 .int],[32,33,34],[],[]⟩ (.t 31)
     (.region [
 oq 32 (.mov (.t 11)),
 oq 33 (.bin .int .add (.t 32) (.c (.int .i64 1))),
 oq 9 (.mov (.t 33))] [] false)
   (.region [
 oq 34 (.mov (.t 11)),
 oq 10 (.mov (.t 34))] [] false)))))))
  (.seq (.regionJ ⟨[.slot 6 .int,.slot 7 .bool],[35,36,37,38,39,40,41,42,43,44,45,46,47,48],[],[]⟩ [
 oq 35 (.mov (.t 9)),
 oq 36 (.mov (.t 9)),
 oq 37 (.mov (.t 8)),
  ⟨some 38,.bin .int .lss (.t 36) (.t 37),none,[1,2]⟩,
  ⟨some 39,.mov (.t 38),none,[3]⟩,
  ⟨some 40,.mov (.t 2),(some (39,true)),[4]⟩,
  ⟨some 41,.mov (.t 0),(some (39,true)),[4]⟩,
  ⟨some 42,.mov (.t 9),(some (39,true)),[4]⟩,
  ⟨some 43,.ia 2 (.t 41) (.t 42),(some (39,true)),[6,7,4]⟩,
  ⟨some 44,.load (some 2) (.t 43),(some (39,true)),[8,4]⟩,
  ⟨some 45,.load (some 2) (.t 4),(some (39,true)),[4]⟩,
  ⟨some 46,.calld false (.t 40) [(.t 44),(.t 45)],(some (39,true)),[5,9,10,4,4]⟩,
  ⟨some 47,.bin .int .eql (.t 46) (.c (.int .i64 0)),(some (39,true)),[11,4]⟩,
  ⟨some 48,.pick (.t 39) (.t 47) (.c (.bool false)),none,[4,12]⟩,
  ⟨some 6,.mov (.t 35),none,[0,11,0]⟩,
  ⟨some 7,.mov (.t 48),none,[13,14,0,1,2,3,4,5,6,7,8,9,10,11,12,13,14]⟩] [] true)
  (.ret)))))
def tf80:TFunc:={ np:=3,nt:=49,res:=[.tmp 6,.tmp 7],own:=false,body:=tc80 }
noncomputable def S80_61_L1 (F61:Entry→Entry→(Option Int)) (a0:(List Entry)) (a1:Entry) (x1:(Int×Int)):Option (LR (Int×Int) (Int×Bool)) :=
 br (decide (x1.1 < x1.2))
 (bno (lookI a0 (wi ((IntKind.wrap .u64 (wi (x1.1+x1.2))) / 2))) fun y2 =>
 bno (F61 y2 a1) fun y3 =>
 jn (σ:=(Int×Int)) (α:=(LR (Int×Int) (Int×Bool))) (br (decide (y3 < (0:Int)))
 (inlO (some (wi ((wi ((IntKind.wrap .u64 (wi (x1.1+x1.2))) / 2))+(1:Int)),x1.2)))
 (inlO (some (x1.1,wi ((IntKind.wrap .u64 (wi (x1.1+x1.2))) / 2))))) fun x4 =>
 nxO (some (x4.1,x4.2)))
 (dnO (some (x1.1,x1.2)))
noncomputable def S80_61 (F61:Entry→Entry→(Option Int)) (a0:(List Entry)) (a1:Entry):Option (Int×Bool) :=
 lp (S80_61_L1 F61 a0 a1) ((0:Int),((List.length a0:Nat):Int)) fun x5 =>
 jn (σ:=(Int×Bool)) (α:=(Int×Bool)) (br (decide (x5.1 < ((List.length a0:Nat):Int)))
 (bno (lookI a0 x5.1) fun y6 =>
 bno (F61 y6 a1) fun y7 =>
 inlO (some (x5.1,decide (y7=(0:Int)))))
 (inlO (some (x5.1,false)))) fun x8 =>
 some (x8.1,x8.2)
theorem s80_61 (F61:Entry→Entry→(Option Int)) (a0:(List Entry)) (a1:Entry):tf80.run [⟨61,[(.st .entry),(.st .entry)],.int,fun x=>F61 x.1 x.2,false,[]⟩] [(.sl .entry),(.st .entry),(.fnc 61 [])] (.tp [.int,.bool]) (a0,a1,())=S80_61 F61 a0 a1:=by kernel_rfl
noncomputable def P80_61 (a0:(List Entry)) (a1:Entry):Option (Int×Bool):=S80_61 P61 a0 a1
noncomputable def k80_61:CSpec:=⟨80,[(.sl .entry),(.st .entry),(.fnc 61 [])],(.tp [.int,.bool]),fun x=>P80_61 x.1 x.2.1,false,[]⟩
theorem r80_61 {S:Seat} (h:Ok1 S 80 tf80) (h61:Rt S k61):Rt S k80_61:=fun x y hy =>
 Ok1.sound h (C:=[k61]) (CSound.cons h61 CSound.nil) rfl rfl rfl ((s80_61 P61 x.1 x.2.1).trans hy) rfl
def tc60:TCode :=
 .seq (.region [
 oq 2 (.mov (.c (.bool false)))] [] false)
  (.seq (.regionJ ⟨[.slot 2 .bool],[3,4,5,6,7,8],[],[]⟩ [
 oq 3 (.mov (.t 0)),
 oq 4 (.bin .int .geq (.t 3) (.c (.int .i64 (-1000000)))),
 oq 5 (.mov (.t 4)),
  ⟨some 6,.mov (.t 0),(some (5,true)),[]⟩,
  ⟨some 7,.bin .int .leq (.t 6) (.c (.int .i64 1000000)),(some (5,true)),[]⟩,
 oq 8 (.pick (.t 5) (.t 7) (.c (.bool false))),
 oq 2 (.mov (.t 8))] [] false)
  (.ret))
def tf60:TFunc:={ np:=1,nt:=9,res:=[.tmp 2],own:=false,body:=tc60 }
noncomputable def S60 (a0:Int):Option Bool :=
 jn (σ:=Bool) (α:=Bool) (br (decide ((-1000000:Int)≤a0))
 (inlO (some (decide (a0≤(1000000:Int)))))
 (inlO (some false))) fun x1 =>
 some x1
theorem s60 (a0:Int):tf60.run [] [.int] .bool a0=S60 a0:=by kernel_rfl
noncomputable def P60 (a0:Int):Option Bool:=S60 a0
noncomputable def k60:CSpec:=⟨60,[.int],.bool,fun x=>P60 x,false,[]⟩
theorem r60 {S:Seat} (h:Ok1 S 60 tf60):Rt S k60:=fun x y hy =>
 Ok1.sound h (C:=[]) CSound.nil rfl rfl rfl ((s60 x).trans hy) rfl
def tc27:TCode :=
 .seq (.region [
 oq 2 (.box (.t 0)),
 oq 4 (.mov (.c (.nilIface)))] [] false)
  (.seq (.seq (.region [
 oq 9 (.load (some 1) (.t 2)),
 oq 10 (.call false [] 51 [(.t 9)]),
 oq 5 (.mov (.t 10))] [] false)
  (.seq (.region [
 oq 11 (.mov (.t 5)),
 oq 12 (.eqn false true (.t 11))] [] false)
  (.cond (.t 12)
   (.seq (.region [
 oq 13 (.mov (.t 5)),
 oq 4 (.mov (.t 13))] [] false)
    (.ret))
    (.skip))))
  (.seq (.seq (.region [
 oq 14 (.mov (.t 1)),
 oq 15 (.len false (.t 14)),
 oq 16 (.mov (.c (.int .i64 0)))] [] false)
  (.loop ⟨[.slot 16 .int],[6,7,8,17,18,19,20,21,22,23,24,25,26,28,29,30,31,32,33,35,36,37,38,39,41,42,43,44,45,46,47,48,49,50,51,52,53,55],[7],[]⟩ 0 (.seq (.region [
 oq 17 (.bin .int .lss (.t 16) (.t 15))] [] false)
    (.seq (.cond (.t 17)
     (.skip)
     (.exit 0))
    (.seq (.block 1 (.seq (.region [
 oq 18 (.mov (.t 16)),
 oq 19 (.ia 2 (.t 14) (.t 16)),
 oq 20 (.load (some 2) (.t 19)),
 oq 7 (.alloc [.slice none 0 0,.int .i64 0]),
 oq 6 (.mov (.t 18)),
  ⟨none,.store 2 (.t 7) (.t 20),none,[]⟩] [] false)
    (.seq (.seq (.region [
 oq 21 (.load (some 1) (.t 2)),
 oq 22 (.fa 0 (.t 7)),
 oq 23 (.load none (.t 22)),
 oq 24 (.call false [] 58 [(.t 21),(.t 23)]),
 oq 8 (.mov (.t 24))] [] false)
      (.seq (.region [
 oq 25 (.mov (.t 8)),
 oq 26 (.eqn false true (.t 25))] [] false)
   (.cond (.t 26)
    (.seq (.region [
 oq 27 (.mov (.t 8)),
 oq 4 (.mov (.t 27))] [] false)
   (.ret))
   (.skip))))
      (.block 2 (.seq (.region [
 oq 29 (.load (some 1) (.t 2)),
 oq 30 (.fa 0 (.t 7)),
 oq 31 (.load none (.t 30)),
 oq 32 (.call false [] 59 [(.t 29),(.t 31)]),
 oq 33 (.un .not (.t 32)),
 oq 28 (.mov (.t 33))] [] false)
   (.cond (.t 28)
    (.seq (.region [
 oq 34 (.ifc 1 (.c (.int .i64 6))),
 oq 4 (.mov (.t 34))] [] false)
   (.ret))
   (.seq (.region [
 oq 36 (.fa 1 (.t 7)),
 oq 37 (.load none (.t 36)),
 oq 38 (.call false [] 60 [(.t 37)]),
 oq 39 (.un .not (.t 38)),
 oq 35 (.mov (.t 39))] [] false)
   (.cond (.t 35)
    (.seq (.region [
 oq 40 (.ifc 1 (.c (.int .i64 1))),
 oq 4 (.mov (.t 40))] [] false)
            (.ret))
            (.seq (.regionJ ⟨[.slot 41 .bool],[42,43,44,45,46,47,48,49,50,51,52,53],[],[]⟩ [
 oq 42 (.mov (.t 6)),
  ⟨some 43,.bin .int .gtr (.t 42) (.c (.int .i64 0)),none,[0]⟩,
  ⟨some 44,.mov (.t 43),none,[1]⟩,
  ⟨some 45,.mov (.t 1),(some (44,true)),[2]⟩,
  ⟨some 46,.mov (.t 6),(some (44,true)),[2]⟩,
  ⟨some 47,.bin .int .sub (.t 46) (.c (.int .i64 1)),(some (44,true)),[4,2]⟩,
  ⟨some 48,.ia 2 (.t 45) (.t 47),(some (44,true)),[3,5,2]⟩,
  ⟨some 49,.load (some 2) (.t 48),(some (44,true)),[6,2]⟩,
  ⟨some 50,.load (some 2) (.t 7),(some (44,true)),[2]⟩,
  ⟨some 51,.call false [] 61 [(.t 49),(.t 50)],(some (44,true)),[7,8,2,2]⟩,
  ⟨some 52,.bin .int .geq (.t 51) (.c (.int .i64 0)),(some (44,true)),[9,2]⟩,
  ⟨some 53,.pick (.t 44) (.t 52) (.c (.bool false)),none,[2,10]⟩,
  ⟨some 41,.mov (.t 53),none,[11,9]⟩] [] true)
           (.cond (.t 41)
            (.seq (.region [
 oq 54 (.ifc 1 (.c (.int .i64 7))),
 oq 4 (.mov (.t 54))] [] false)
   (.ret))
   (.skip)))))))))))
    (.region [
 oq 55 (.bin .int .add (.t 16) (.c (.int .i64 1))),
 oq 16 (.mov (.t 55))] [] false))))))
  (.seq (.region [
 oq 4 (.mov (.c (.nilIface)))] [] false)
  (.ret))))
def tf27:TFunc:={ np:=2,nt:=56,res:=[.tmp 4],own:=false,body:=tc27 }
noncomputable def S27_L1 (F58:(List Dim)→(List Int)→(Option Err)) (F59:(List Dim)→(List Int)→(Option Bool)) (F60:Int→(Option Bool)) (F61:Entry→Entry→(Option Int)) (a0:(List Dim)) (a1:(List Entry)) (x2:Int):Option (LR Int Err) :=
 br (decide (x2 < ((List.length a1:Nat):Int)))
 (bno (lookI a1 x2) fun y3 =>
 bno (F58 a0 (Entry.at_ y3)) fun y4 =>
 br (!(Err.isNil y4))
 (finO (some y4))
 (bno (F59 a0 (Entry.at_ y3)) fun y5 =>
 br (!y5)
 (finO (some (Err.no (6:Int))))
 (bno (F60 (Entry.n y3)) fun y6 =>
 br (!y6)
 (finO (some (Err.no (1:Int))))
 (jn (σ:=Bool) (α:=(LR Int Err)) (br (decide ((0:Int) < x2))
 (bno (lookI a1 (wi (x2 - (1:Int)))) fun y7 =>
 bno (F61 y7 y3) fun y8 =>
 inlO (some (decide ((0:Int)≤y8))))
 (inlO (some false))) fun x9 =>
 br x9
 (finO (some (Err.no (7:Int))))
 (nxO (some (wi (x2+(1:Int)))))))))
 (dnO (some x2))
noncomputable def S27 (F51:(List Dim)→(Option Err)) (F58:(List Dim)→(List Int)→(Option Err)) (F59:(List Dim)→(List Int)→(Option Bool)) (F60:Int→(Option Bool)) (F61:Entry→Entry→(Option Int)) (a0:(List Dim)) (a1:(List Entry)):Option Err :=
 bno (F51 a0) fun y1 =>
 br (!(Err.isNil y1))
 (some y1)
 (lp (S27_L1 F58 F59 F60 F61 a0 a1) (0:Int) fun x10 =>
 some Err.nil)
theorem s27 (F51:(List Dim)→(Option Err)) (F58:(List Dim)→(List Int)→(Option Err)) (F59:(List Dim)→(List Int)→(Option Bool)) (F60:Int→(Option Bool)) (F61:Entry→Entry→(Option Int)) (a0:(List Dim)) (a1:(List Entry)):tf27.run [⟨51,[(.st .outl)],.err,fun x=>F51 x,false,[]⟩,
 ⟨58,[(.st .outl),(.sl .int)],.err,fun x=>F58 x.1 x.2,false,[]⟩,
 ⟨59,[(.st .outl),(.sl .int)],.bool,fun x=>F59 x.1 x.2,false,[]⟩,
 ⟨60,[.int],.bool,fun x=>F60 x,false,[]⟩,
 ⟨61,[(.st .entry),(.st .entry)],.int,fun x=>F61 x.1 x.2,false,[]⟩] [(.st .outl),(.sl .entry)] .err (a0,a1)=S27 F51 F58 F59 F60 F61 a0 a1:=by kernel_rfl
noncomputable def P27 (a0:(List Dim)) (a1:(List Entry)):Option Err:=S27 P51 P58 P59 P60 P61 a0 a1
noncomputable def k27:CSpec:=⟨27,[(.st .outl),(.sl .entry)],.err,fun x=>P27 x.1 x.2,false,[]⟩
theorem r27 {S:Seat} (h:Ok1 S 27 tf27) (h51:Rt S k51) (h58:Rt S k58) (h59:Rt S k59) (h60:Rt S k60) (h61:Rt S k61):Rt S k27:=fun x y hy =>
 Ok1.sound h (C:=[k51,k58,k59,k60,k61]) (CSound.cons h51 (CSound.cons h58 (CSound.cons h59 (CSound.cons h60 (CSound.cons h61 CSound.nil))))) rfl rfl rfl ((s27 P51 P58 P59 P60 P61 x.1 x.2).trans hy) rfl
def tc73:TCode :=
 .seq (.region [
 oq 4 (.mov (.c (.int .i64 0))),
 oq 5 (.mov (.c (.bool false)))] [] false)
  (.seq (.region [
 oq 6 (.mov (.t 0)),
 oq 7 (.mov (.t 1)),
 oq 8 (.build [.slice none 0 0,.int .i64 0] [(0,1,(.t 7))]),
 oq 9 (.call false [] 80 [(.t 6),(.t 8),(.f 61)]),
 oq 10 (.ext (.t 9) 0),
 oq 11 (.ext (.t 9) 1),
 oq 4 (.mov (.t 10)),
 oq 5 (.mov (.t 11))] [] false)
  (.ret))
def tf73:TFunc:={ np:=2,nt:=12,res:=[.tmp 4,.tmp 5],own:=false,body:=tc73 }
noncomputable def S73 (F80_61:(List Entry)→Entry→(Option (Int×Bool))) (a0:(List Entry)) (a1:(List Int)):Option (Int×Bool) :=
 bno (F80_61 a0 (Entry.mk a1 (0:Int))) fun y1 =>
 some (y1.1,y1.2)
theorem s73 (F80_61:(List Entry)→Entry→(Option (Int×Bool))) (a0:(List Entry)) (a1:(List Int)):tf73.run [⟨80,[(.sl .entry),(.st .entry),(.fnc 61 [])],(.tp [.int,.bool]),fun x=>F80_61 x.1 x.2.1,false,[]⟩] [(.sl .entry),(.sl .int)] (.tp [.int,.bool]) (a0,a1)=S73 F80_61 a0 a1:=by kernel_rfl
noncomputable def P73 (a0:(List Entry)) (a1:(List Int)):Option (Int×Bool):=S73 P80_61 a0 a1
noncomputable def k73:CSpec:=⟨73,[(.sl .entry),(.sl .int)],(.tp [.int,.bool]),fun x=>P73 x.1 x.2,false,[]⟩
theorem r73 {S:Seat} (h:Ok1 S 73 tf73) (h80_61:Rt S k80_61):Rt S k73:=fun x y hy =>
 Ok1.sound h (C:=[k80_61]) (CSound.cons h80_61 CSound.nil) rfl rfl rfl ((s73 P80_61 x.1 x.2).trans hy) rfl
def tc57:TCode :=
 .seq (.region [
 oq 4 (.alloc [.int .i64 0,.int .i64 0])] [] false)
  (.seq (.region [
 oq 8 (.mov (.t 0)),
 oq 9 (.mov (.t 1)),
 oq 10 (.call false [] 73 [(.t 8),(.t 9)]),
 oq 7 (.mov (.t 10)),
 oq 11 (.ext (.t 7) 0),
 oq 12 (.ext (.t 7) 1),
 oq 5 (.mov (.t 11)),
 oq 6 (.mov (.t 12))] [] false)
  (.seq (.seq (.region [
 oq 13 (.mov (.t 6)),
 oq 14 (.un .not (.t 13))] [] false)
  (.cond (.t 14)
   (.seq (.region [
 oq 15 (.build [.int .i64 0,.int .i64 0] []),
  ⟨none,.store 2 (.t 4) (.t 15),none,[]⟩] [] false)
   (.ret))
   (.skip)))
  (.seq (.region [
 oq 16 (.mov (.t 0)),
 oq 17 (.mov (.t 5)),
 oq 18 (.ia 2 (.t 16) (.t 17)),
 oq 19 (.fa 1 (.t 18)),
 oq 20 (.load none (.t 19)),
 oq 21 (.build [.int .i64 0,.int .i64 0] [(0,1,(.c (.int .i64 1))),(1,1,(.t 20))]),
  ⟨none,.store 2 (.t 4) (.t 21),none,[]⟩] [] false)
  (.ret))))
def tf57:TFunc:={ np:=2,nt:=22,res:=[.cell 4 (some 2)],own:=false,body:=tc57 }
noncomputable def S57 (F73:(List Entry)→(List Int)→(Option (Int×Bool))) (a0:(List Entry)) (a1:(List Int)):Option Cell :=
 bno (F73 a0 a1) fun y1 =>
 br (!y1.2)
 (some (Cell.mk (0:Int) (0:Int)))
 (bno (lookI a0 y1.1) fun y2 =>
 some (Cell.mk (1:Int) (Entry.n y2)))
theorem s57 (F73:(List Entry)→(List Int)→(Option (Int×Bool))) (a0:(List Entry)) (a1:(List Int)):tf57.run [⟨73,[(.sl .entry),(.sl .int)],(.tp [.int,.bool]),fun x=>F73 x.1 x.2,false,[]⟩] [(.sl .entry),(.sl .int)] (.st .cell) (a0,a1)=S57 F73 a0 a1:=by kernel_rfl
noncomputable def P57 (a0:(List Entry)) (a1:(List Int)):Option Cell:=S57 P73 a0 a1
noncomputable def k57:CSpec:=⟨57,[(.sl .entry),(.sl .int)],(.st .cell),fun x=>P57 x.1 x.2,false,[]⟩
theorem r57 {S:Seat} (h:Ok1 S 57 tf57) (h73:Rt S k73):Rt S k57:=fun x y hy =>
 Ok1.sound h (C:=[k73]) (CSound.cons h73 CSound.nil) rfl rfl rfl ((s57 P73 x.1 x.2).trans hy) rfl
end Ab
end
section
namespace Ab
open Go
set_option linter.unusedVariables false
set_option maxRecDepth 100000
def tc70:TCode :=
 .seq (.region [
 oq 6 (.mov (.c (.slice none 0 0)))] [] false)
  (.seq (.region [
 oq 7 (.mov (.t 0)),
 oq 8 (.call true [] 76 [(.t 7)]),
 oq 0 (.mov (.t 8))] [] false)
  (.seq (.region [
 oq 9 (.mov (.t 0)),
 oq 10 (.mov (.t 1)),
 oq 11 (.mov (.t 2)),
 oq 12 (.ia 1 (.t 9) (.t 10)),
  ⟨none,.store 1 (.t 12) (.t 11),none,[]⟩] [] false)
  (.seq (.region [
 oq 13 (.mov (.t 0)),
 oq 6 (.mov (.t 13))] [] false)
  (.ret))))
def tf70:TFunc:={ np:=3,nt:=14,res:=[.tmp 6],own:=false,body:=tc70 }
noncomputable def S70 (F76:(List Int)→(Option (List Int))) (a0:(List Int)) (a1:Int) (a2:Int):Option (List Int) :=
 bno (F76 a0) fun y1 =>
 ck (decide (0≤a1∧a1 < ((List.length y1:Nat):Int))) <|
 bno ((y1)[(Int.toNat a1)]?) fun y2 =>
 some (List.set y1 (Int.toNat a1) a2)
theorem s70 (F76:(List Int)→(Option (List Int))) (a0:(List Int)) (a1:Int) (a2:Int):tf70.run [⟨76,[(.sl .int)],(.own .int),fun x=>F76 x,false,[]⟩] [(.sl .int),.int,.int] (.sl .int) (a0,a1,a2)=S70 F76 a0 a1 a2:=by kernel_rfl
noncomputable def P70 (a0:(List Int)) (a1:Int) (a2:Int):Option (List Int):=S70 P76 a0 a1 a2
noncomputable def k70:CSpec:=⟨70,[(.sl .int),.int,.int],(.sl .int),fun x=>P70 x.1 x.2.1 x.2.2,false,[]⟩
theorem r70 {S:Seat} (h:Ok1 S 70 tf70) (h76:Rt S k76):Rt S k70:=fun x y hy =>
 Ok1.sound h (C:=[k76]) (CSound.cons h76 CSound.nil) rfl rfl rfl ((s70 P76 x.1 x.2.1 x.2.2).trans hy) rfl
end Ab
end
