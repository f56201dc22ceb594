import Derived.Test.YtchidgkpkhloeaaGreatDoorB2
import Derived.KernelRfl
import Derived.Test.YtchidgkpkhloeaaGreatDoorHB
section
namespace Ab
open Go
set_option linter.unusedVariables false
set_option maxRecDepth 100000
def tc49:TCode :=
 .seq (.region [
 oq 2 (.box (.t 0)),
 oq 4 (.mov (.c (.int .i64 0)))] [] false)
  (.seq (.region [
 oq 5 (.mov (.c (.int .i64 0)))] [] false)
  (.seq (.seq (.region [
 oq 8 (.mov (.t 1)),
 oq 9 (.len false (.t 8)),
 oq 10 (.mov (.c (.int .i64 0)))] [] false)
  (.loop ⟨[.slot 5 .int,.slot 10 .int],[6,7,11,12,13,14,15,16,17,18,19,20,21,22,23,24,25,26],[],[]⟩ 0 (.seq (.region [
 oq 11 (.bin .int .lss (.t 10) (.t 9))] [] false)
    (.seq (.cond (.t 11)
     (.skip)
     (.exit 0))
    (.seq (.block 1 (.seq (.region [
 oq 12 (.mov (.t 10)),
 oq 13 (.ia 1 (.t 8) (.t 10)),
 oq 14 (.load none (.t 13)),
 oq 6 (.mov (.t 12)),
 oq 7 (.mov (.t 14))] [] false)
      (.region [
 oq 15 (.mov (.t 5)),
 oq 16 (.fa 0 (.t 2)),
 oq 17 (.load none (.t 16)),
 oq 18 (.mov (.t 6)),
 oq 19 (.ia 3 (.t 17) (.t 18)),
 oq 20 (.fa 2 (.t 19)),
 oq 21 (.load none (.t 20)),
 oq 22 (.len false (.t 21)),
 oq 23 (.bin .int .mul (.t 15) (.t 22)),
 oq 24 (.mov (.t 7)),
 oq 25 (.bin .int .add (.t 23) (.t 24)),
 oq 5 (.mov (.t 25))] [] false)))
    (.region [
 oq 26 (.bin .int .add (.t 10) (.c (.int .i64 1))),
 oq 10 (.mov (.t 26))] [] false))))))
  (.seq (.region [
 oq 27 (.mov (.t 5)),
 oq 4 (.mov (.t 27))] [] false)
  (.ret))))
def tf49:TFunc:={ np:=2,nt:=28,res:=[.tmp 4],own:=false,body:=tc49 }
noncomputable def S49_L1 (a0:(List Dim)) (a1:(List Int)) (x1:(Int×Int)):Option (LR (Int×Int) Int) :=
 br (decide (x1.2 < ((List.length a1:Nat):Int)))
 (bno (lookI a1 x1.2) fun y2 =>
 bno (lookI a0 x1.2) fun y3 =>
 nxO (some (wi ((wi (x1.1 * ((List.length (Dim.members y3):Nat):Int)))+y2),wi (x1.2+(1:Int)))))
 (dnO (some (x1.1,x1.2)))
noncomputable def S49 (a0:(List Dim)) (a1:(List Int)):Option Int :=
 lp (S49_L1 a0 a1) ((0:Int),(0:Int)) fun x4 =>
 some x4.1
theorem s49 (a0:(List Dim)) (a1:(List Int)):tf49.run [] [(.st .outl),(.sl .int)] .int (a0,a1)=S49 a0 a1:=by kernel_rfl
noncomputable def P49 (a0:(List Dim)) (a1:(List Int)):Option Int:=S49 a0 a1
noncomputable def k49:CSpec:=⟨49,[(.st .outl),(.sl .int)],.int,fun x=>P49 x.1 x.2,false,[]⟩
theorem r49 {S:Seat} (h:Ok1 S 49 tf49):Rt S k49:=fun x y hy =>
 Ok1.sound h (C:=[]) CSound.nil rfl rfl rfl ((s49 x.1 x.2).trans hy) rfl
def tc58:TCode :=
 .seq (.region [
 oq 2 (.box (.t 0)),
 oq 4 (.mov (.c (.nilIface)))] [] false)
  (.seq (.seq (.region [
 oq 7 (.mov (.t 1)),
 oq 8 (.len false (.t 7)),
 oq 9 (.fa 0 (.t 2)),
 oq 10 (.load none (.t 9)),
 oq 11 (.len false (.t 10)),
 oq 12 (.bin .int .neq (.t 8) (.t 11))] [] false)
  (.cond (.t 12)
   (.seq (.region [
 oq 13 (.ifc 1 (.c (.int .i64 3))),
 oq 4 (.mov (.t 13))] [] false)
    (.ret))
    (.skip)))
  (.seq (.seq (.region [
 oq 14 (.mov (.t 1)),
 oq 15 (.len false (.t 14)),
 oq 16 (.mov (.c (.int .i64 0)))] [] false)
  (.loop ⟨[.slot 16 .int],[5,6,17,18,19,20,21,22,23,24,25,26,27,28,29,30,31,32,33,35],[],[]⟩ 0 (.seq (.region [
 oq 17 (.bin .int .lss (.t 16) (.t 15))] [] false)
    (.seq (.cond (.t 17)
     (.skip)
     (.exit 0))
    (.seq (.block 1 (.seq (.region [
 oq 18 (.mov (.t 16)),
 oq 19 (.ia 1 (.t 14) (.t 16)),
 oq 20 (.load none (.t 19)),
 oq 5 (.mov (.t 18)),
 oq 6 (.mov (.t 20))] [] false)
      (.seq (.regionJ ⟨[.slot 33 .bool],[21,22,23,24,25,26,27,28,29,30,31,32],[],[]⟩ [
 oq 21 (.mov (.t 6)),
 oq 22 (.bin .int .lss (.t 21) (.c (.int .i64 0))),
 oq 23 (.mov (.t 22)),
  ⟨some 24,.mov (.t 6),(some (23,false)),[]⟩,
  ⟨some 25,.fa 0 (.t 2),(some (23,false)),[]⟩,
  ⟨some 26,.load none (.t 25),(some (23,false)),[]⟩,
  ⟨some 27,.mov (.t 5),(some (23,false)),[]⟩,
  ⟨some 28,.ia 3 (.t 26) (.t 27),(some (23,false)),[]⟩,
  ⟨some 29,.fa 2 (.t 28),(some (23,false)),[]⟩,
  ⟨some 30,.load none (.t 29),(some (23,false)),[]⟩,
  ⟨some 31,.len false (.t 30),(some (23,false)),[]⟩,
  ⟨some 32,.bin .int .geq (.t 24) (.t 31),(some (23,false)),[]⟩,
 oq 33 (.pick (.t 23) (.c (.bool true)) (.t 32))] [] false)
   (.cond (.t 33)
    (.seq (.region [
 oq 34 (.ifc 1 (.c (.int .i64 1))),
 oq 4 (.mov (.t 34))] [] false)
   (.ret))
   (.skip)))))
    (.region [
 oq 35 (.bin .int .add (.t 16) (.c (.int .i64 1))),
 oq 16 (.mov (.t 35))] [] false))))))
  (.seq (.region [
 oq 4 (.mov (.c (.nilIface)))] [] false)
  (.ret))))
def tf58:TFunc:={ np:=2,nt:=36,res:=[.tmp 4],own:=false,body:=tc58 }
noncomputable def S58_L1 (a0:(List Dim)) (a1:(List Int)) (x1:Int):Option (LR Int Err) :=
 br (decide (x1 < ((List.length a1:Nat):Int)))
 (bno (lookI a1 x1) fun y2 =>
 jn (σ:=Bool) (α:=(LR Int Err)) (br (decide (y2 < (0:Int)))
 (inlO (some true))
 (bno (lookI a0 x1) fun y3 =>
 inlO (some (decide (((List.length (Dim.members y3):Nat):Int)≤y2))))) fun x4 =>
 br x4
 (finO (some (Err.no (1:Int))))
 (nxO (some (wi (x1+(1:Int))))))
 (dnO (some x1))
noncomputable def S58 (a0:(List Dim)) (a1:(List Int)):Option Err :=
 br (decide (¬ ((List.length a1:Nat):Int)=((List.length a0:Nat):Int)))
 (some (Err.no (3:Int)))
 (lp (S58_L1 a0 a1) (0:Int) fun x5 =>
 some Err.nil)
theorem s58 (a0:(List Dim)) (a1:(List Int)):tf58.run [] [(.st .outl),(.sl .int)] .err (a0,a1)=S58 a0 a1:=by kernel_rfl
noncomputable def P58 (a0:(List Dim)) (a1:(List Int)):Option Err:=S58 a0 a1
noncomputable def k58:CSpec:=⟨58,[(.st .outl),(.sl .int)],.err,fun x=>P58 x.1 x.2,false,[]⟩
theorem r58 {S:Seat} (h:Ok1 S 58 tf58):Rt S k58:=fun x y hy =>
 Ok1.sound h (C:=[]) CSound.nil rfl rfl rfl ((s58 x.1 x.2).trans hy) rfl
def tc59:TCode :=
 .seq (.region [
 oq 2 (.box (.t 0)),
 oq 4 (.mov (.c (.bool false)))] [] false)
  (.seq (.seq (.region [
 oq 7 (.mov (.t 1)),
 oq 8 (.len false (.t 7)),
 oq 9 (.mov (.c (.int .i64 0)))] [] false)
  (.loop ⟨[.slot 9 .int],[5,6,10,11,12,13,14,15,16,17,18,19,20,21,22],[],[]⟩ 0 (.seq (.region [
 oq 10 (.bin .int .lss (.t 9) (.t 8))] [] false)
    (.seq (.cond (.t 10)
     (.skip)
     (.exit 0))
    (.seq (.block 1 (.seq (.region [
 oq 11 (.mov (.t 9)),
 oq 12 (.ia 1 (.t 7) (.t 9)),
 oq 13 (.load none (.t 12)),
 oq 5 (.mov (.t 11)),
 oq 6 (.mov (.t 13))] [] false)
      (.seq (.region [
 oq 14 (.fa 0 (.t 2)),
 oq 15 (.load none (.t 14)),
 oq 16 (.mov (.t 5)),
 oq 17 (.ia 3 (.t 15) (.t 16)),
 oq 18 (.load (some 3) (.t 17)),
 oq 19 (.mov (.t 6)),
 oq 20 (.call false [] 44 [(.t 18),(.t 19)]),
 oq 21 (.un .not (.t 20))] [] false)
   (.cond (.t 21)
    (.seq (.region [
 oq 4 (.mov (.c (.bool false)))] [] false)
   (.ret))
   (.skip)))))
    (.region [
 oq 22 (.bin .int .add (.t 9) (.c (.int .i64 1))),
 oq 9 (.mov (.t 22))] [] false))))))
  (.seq (.region [
 oq 4 (.mov (.c (.bool true)))] [] false)
  (.ret)))
def tf59:TFunc:={ np:=2,nt:=23,res:=[.tmp 4],own:=false,body:=tc59 }
noncomputable def S59_L1 (F44:Dim→Int→(Option Bool)) (a0:(List Dim)) (a1:(List Int)) (x1:Int):Option (LR Int Bool) :=
 br (decide (x1 < ((List.length a1:Nat):Int)))
 (bno (lookI a1 x1) fun y2 =>
 bno (lookI a0 x1) fun y3 =>
 bno (F44 y3 y2) fun y4 =>
 br (!y4)
 (finO (some false))
 (nxO (some (wi (x1+(1:Int))))))
 (dnO (some x1))
noncomputable def S59 (F44:Dim→Int→(Option Bool)) (a0:(List Dim)) (a1:(List Int)):Option Bool :=
 lp (S59_L1 F44 a0 a1) (0:Int) fun x5 =>
 some true
theorem s59 (F44:Dim→Int→(Option Bool)) (a0:(List Dim)) (a1:(List Int)):tf59.run [⟨44,[(.st .dim),.int],.bool,fun x=>F44 x.1 x.2,false,[]⟩] [(.st .outl),(.sl .int)] .bool (a0,a1)=S59 F44 a0 a1:=by kernel_rfl
noncomputable def P59 (a0:(List Dim)) (a1:(List Int)):Option Bool:=S59 P44 a0 a1
noncomputable def k59:CSpec:=⟨59,[(.st .outl),(.sl .int)],.bool,fun x=>P59 x.1 x.2,false,[]⟩
theorem r59 {S:Seat} (h:Ok1 S 59 tf59) (h44:Rt S k44):Rt S k59:=fun x y hy =>
 Ok1.sound h (C:=[k44]) (CSound.cons h44 CSound.nil) rfl rfl rfl ((s59 P44 x.1 x.2).trans hy) rfl
def tc69:TCode :=
 .seq (.region [
 oq 2 (.box (.t 0)),
 oq 4 (.mov (.c (.slice none 0 0)))] [] false)
  (.seq (.region [
 oq 8 (.fa 0 (.t 2)),
 oq 9 (.load none (.t 8)),
 oq 10 (.len false (.t 9)),
 oq 11 (.mksl 1 [.int .i64 0] (.t 10) (.t 10)),
 oq 5 (.mov (.t 11))] [] false)
  (.seq (.seq (.region [
 oq 12 (.mov (.t 5)),
 oq 13 (.len false (.t 12)),
 oq 14 (.bin .int .sub (.t 13) (.c (.int .i64 1))),
 oq 6 (.mov (.t 14))] [] false)
  (.loop ⟨[.slot 1 .int,.slot 6 .int,.rowH 11 .int],[7,15,16,17,18,19,20,21,22,23,24,25,26,27,28,29,30,31,32,33,34],[],[]⟩ 0 (.seq (.seq (.region [
 oq 15 (.mov (.t 6)),
 oq 16 (.bin .int .geq (.t 15) (.c (.int .i64 0)))] [] false)
    (.cond (.t 16)
     (.skip)
     (.exit 0)))
    (.seq (.block 1 (.seq (.region [
 oq 19 (.fa 0 (.t 2)),
 oq 20 (.load none (.t 19)),
 oq 21 (.mov (.t 6)),
 oq 22 (.ia 3 (.t 20) (.t 21)),
 oq 23 (.fa 2 (.t 22)),
 oq 24 (.load none (.t 23)),
 oq 25 (.len false (.t 24)),
 oq 7 (.mov (.t 25))] [] false)
      (.seq (.region [
 oq 26 (.mov (.t 5)),
 oq 27 (.mov (.t 6)),
 oq 28 (.mov (.t 1)),
 oq 29 (.mov (.t 7)),
 oq 30 (.bin .int .rem (.t 28) (.t 29)),
 oq 31 (.ia 1 (.t 26) (.t 27)),
  ⟨none,.store 1 (.t 31) (.t 30),none,[]⟩] [] false)
    (.region [
 oq 32 (.mov (.t 1)),
 oq 33 (.mov (.t 7)),
 oq 34 (.bin .int .quo (.t 32) (.t 33)),
 oq 1 (.mov (.t 34))] [] false))))
    (.region [
 oq 17 (.mov (.t 6)),
 oq 18 (.bin .int .sub (.t 17) (.c (.int .i64 1))),
 oq 6 (.mov (.t 18))] [] false)))))
  (.seq (.region [
 oq 35 (.mov (.t 5)),
 oq 4 (.mov (.t 35))] [] false)
  (.ret))))
def tf69:TFunc:={ np:=2,nt:=36,res:=[.tmp 4],own:=false,body:=tc69 }
noncomputable def S69_L1 (a0:(List Dim)) (x1:(Int×Int×(List Int))):Option (LR (Int×Int×(List Int)) (List Int)) :=
 br (decide ((0:Int)≤x1.2.1))
 (bno (lookI a0 x1.2.1) fun y2 =>
 ck (decide (¬ ((List.length (Dim.members y2):Nat):Int)=0)) <|
 ck (decide (0≤x1.2.1∧x1.2.1 < ((List.length x1.2.2:Nat):Int))) <|
 bno ((x1.2.2)[(Int.toNat x1.2.1)]?) fun y3 =>
 ck (decide (¬ ((List.length (Dim.members y2):Nat):Int)=0)) <|
 nxO (some (wi (Int.tdiv x1.1 ((List.length (Dim.members y2):Nat):Int)),wi (x1.2.1 - (1:Int)),List.set x1.2.2 (Int.toNat x1.2.1) (Int.tmod x1.1 ((List.length (Dim.members y2):Nat):Int)))))
 (dnO (some (x1.1,x1.2.1,x1.2.2)))
noncomputable def S69 (a0:(List Dim)) (a1:Int):Option (List Int) :=
 ck (decide (0≤((List.length a0:Nat):Int)∧((List.length a0:Nat):Int)≤((List.length a0:Nat):Int)∧((List.length a0:Nat):Int)≤roomA)) <|
 lp (S69_L1 a0) (a1,wi (((List.length (List.replicate (Int.toNat ((List.length a0:Nat):Int)) (0:Int)):Nat):Int) - (1:Int)),List.replicate (Int.toNat ((List.length a0:Nat):Int)) (0:Int)) fun x4 =>
 some x4.2.2
theorem s69 (a0:(List Dim)) (a1:Int):tf69.run [] [(.st .outl),.int] (.sl .int) (a0,a1)=S69 a0 a1:=by kernel_rfl
noncomputable def P69 (a0:(List Dim)) (a1:Int):Option (List Int):=S69 a0 a1
noncomputable def k69:CSpec:=⟨69,[(.st .outl),.int],(.sl .int),fun x=>P69 x.1 x.2,false,[]⟩
theorem r69 {S:Seat} (h:Ok1 S 69 tf69):Rt S k69:=fun x y hy =>
 Ok1.sound h (C:=[]) CSound.nil rfl rfl rfl ((s69 x.1 x.2).trans hy) rfl
end Ab
end
section
namespace Ab
open Go
set_option linter.unusedVariables false
set_option maxRecDepth 100000
end Ab
end
