import Derived.Test.YtchidgkpkhloeaaGreatDoorB2
import Derived.KernelRfl
section
namespace Ab
open Go
set_option linter.unusedVariables false
set_option maxRecDepth 100000
def tc30:TCode :=
 .seq (.region [
 oq 2 (.mov (.c (.bool false)))] [] false)
  (.seq (.regionJ ⟨[.slot 2 .bool],[3,4,5,6,7,8],[],[]⟩ [
 oq 3 (.mov (.t 0)),
 oq 4 (.bin .int .geq (.t 3) (.c (.int .i64 (-1000000000000)))),
 oq 5 (.mov (.t 4)),
  ⟨some 6,.mov (.t 0),(some (5,true)),[]⟩,
  ⟨some 7,.bin .int .leq (.t 6) (.c (.int .i64 1000000000000)),(some (5,true)),[]⟩,
 oq 8 (.pick (.t 5) (.t 7) (.c (.bool false))),
 oq 2 (.mov (.t 8))] [] false)
  (.ret))
def tf30:TFunc:={ np:=1,nt:=9,res:=[.tmp 2],own:=false,body:=tc30 }
noncomputable def S30 (a0:Int):Option Bool :=
 jn (σ:=Bool) (α:=Bool) (br (decide ((-1000000000000:Int)≤a0))
 (inlO (some (decide (a0≤(1000000000000:Int)))))
 (inlO (some false))) fun x1 =>
 some x1
theorem s30 (a0:Int):tf30.run [] [.int] .bool a0=S30 a0:=by kernel_rfl
noncomputable def P30 (a0:Int):Option Bool:=S30 a0
noncomputable def k30:CSpec:=⟨30,[.int],.bool,fun x=>P30 x,false,[]⟩
theorem r30 {S:Seat} (h:Ok1 S 30 tf30):Rt S k30:=fun x y hy =>
 Ok1.sound h (C:=[]) CSound.nil rfl rfl rfl ((s30 x).trans hy) rfl
def tc8:TCode :=
 .seq (.region [
 oq 2 (.alloc [.int .i64 0,.int .i64 0])] [] false)
  (.seq (.seq (.region [
 oq 3 (.mov (.t 0)),
 oq 4 (.call false [] 30 [(.t 3)]),
 oq 5 (.un .not (.t 4))] [] false)
  (.cond (.t 5)
   (.seq (.region [
 oq 6 (.build [.int .i64 0,.int .i64 0] [(0,1,(.c (.int .i64 2)))]),
  ⟨none,.store 2 (.t 2) (.t 6),none,[]⟩] [] false)
   (.ret))
   (.skip)))
  (.seq (.region [
 oq 7 (.mov (.t 0)),
 oq 8 (.build [.int .i64 0,.int .i64 0] [(0,1,(.c (.int .i64 1))),(1,1,(.t 7))]),
  ⟨none,.store 2 (.t 2) (.t 8),none,[]⟩] [] false)
  (.ret)))
def tf8:TFunc:={ np:=1,nt:=9,res:=[.cell 2 (some 2)],own:=false,body:=tc8 }
noncomputable def S8 (F30:Int→(Option Bool)) (a0:Int):Option Cell :=
 bno (F30 a0) fun y1 =>
 br (!y1)
 (some (Cell.mk (2:Int) (0:Int)))
 (some (Cell.mk (1:Int) a0))
theorem s8 (F30:Int→(Option Bool)) (a0:Int):tf8.run [⟨30,[.int],.bool,fun x=>F30 x,false,[]⟩] [.int] (.st .cell) a0=S8 F30 a0:=by kernel_rfl
noncomputable def P8 (a0:Int):Option Cell:=S8 P30 a0
noncomputable def k8:CSpec:=⟨8,[.int],(.st .cell),fun x=>P8 x,false,[]⟩
theorem r8 {S:Seat} (h:Ok1 S 8 tf8) (h30:Rt S k30):Rt S k8:=fun x y hy =>
 Ok1.sound h (C:=[k30]) (CSound.cons h30 CSound.nil) rfl rfl rfl ((s8 P30 x).trans hy) rfl
def tc33:TCode :=
 .seq (.region [
 oq 3 (.box (.t 0)),
 oq 4 (.box (.t 1)),
 oq 6 (.alloc [.int .i64 0,.int .i64 0])] [] false)
  (.seq (.block 0 (.seq (.regionJ ⟨[.slot 7 .bool],[8,9,10,11,12,13,14,15],[],[]⟩ [
 oq 8 (.fa 0 (.t 3)),
 oq 9 (.load none (.t 8)),
 oq 10 (.bin .int .eql (.t 9) (.c (.int .i64 2))),
 oq 11 (.mov (.t 10)),
  ⟨some 12,.fa 0 (.t 4),(some (11,false)),[]⟩,
  ⟨some 13,.load none (.t 12),(some (11,false)),[]⟩,
  ⟨some 14,.bin .int .eql (.t 13) (.c (.int .i64 2)),(some (11,false)),[]⟩,
 oq 15 (.pick (.t 11) (.c (.bool true)) (.t 14)),
 oq 7 (.mov (.t 15))] [] false)
    (.cond (.t 7)
     (.seq (.region [
 oq 16 (.build [.int .i64 0,.int .i64 0] [(0,1,(.c (.int .i64 2)))]),
  ⟨none,.store 2 (.t 6) (.t 16),none,[]⟩] [] false)
    (.ret))
    (.seq (.regionJ ⟨[.slot 17 .bool],[18,19,20,21,22,23,24,25],[],[]⟩ [
 oq 18 (.fa 0 (.t 3)),
 oq 19 (.load none (.t 18)),
 oq 20 (.bin .int .eql (.t 19) (.c (.int .i64 0))),
 oq 21 (.mov (.t 20)),
  ⟨some 22,.fa 0 (.t 4),(some (21,true)),[]⟩,
  ⟨some 23,.load none (.t 22),(some (21,true)),[]⟩,
  ⟨some 24,.bin .int .eql (.t 23) (.c (.int .i64 0)),(some (21,true)),[]⟩,
 oq 25 (.pick (.t 21) (.t 24) (.c (.bool false))),
 oq 17 (.mov (.t 25))] [] false)
   (.cond (.t 17)
    (.seq (.region [
 oq 26 (.build [.int .i64 0,.int .i64 0] []),
  ⟨none,.store 2 (.t 6) (.t 26),none,[]⟩] [] false)
    (.ret))
    (.skip))))))
  (.seq (.region [
 oq 27 (.fa 1 (.t 3)),
 oq 28 (.load none (.t 27)),
 oq 29 (.mov (.t 2)),
 oq 30 (.fa 1 (.t 4)),
 oq 31 (.load none (.t 30)),
 oq 32 (.bin .int .mul (.t 29) (.t 31)),
 oq 33 (.bin .int .add (.t 28) (.t 32)),
 oq 34 (.call false [] 8 [(.t 33)]),
  ⟨none,.store 2 (.t 6) (.t 34),none,[]⟩] [] false)
  (.ret)))
def tf33:TFunc:={ np:=3,nt:=35,res:=[.cell 6 (some 2)],own:=false,body:=tc33 }
noncomputable def S33 (F8:Int→(Option Cell)) (a0:Cell) (a1:Cell) (a2:Int):Option Cell :=
 jn (σ:=Bool) (α:=Cell) (br (decide ((Cell.k a0)=(2:Int)))
 (inlO (some true))
 (inlO (some (decide ((Cell.k a1)=(2:Int)))))) fun x1 =>
 br x1
 (some (Cell.mk (2:Int) (0:Int)))
 (jn (σ:=Bool) (α:=Cell) (br (decide ((Cell.k a0)=(0:Int)))
 (inlO (some (decide ((Cell.k a1)=(0:Int)))))
 (inlO (some false))) fun x2 =>
 br x2
 (some (Cell.mk (0:Int) (0:Int)))
 (bno (F8 (wi ((Cell.n a0)+(wi (a2 * (Cell.n a1)))))) fun y3 =>
 some y3))
theorem s33 (F8:Int→(Option Cell)) (a0:Cell) (a1:Cell) (a2:Int):tf33.run [⟨8,[.int],(.st .cell),fun x=>F8 x,false,[]⟩] [(.st .cell),(.st .cell),.int] (.st .cell) (a0,a1,a2)=S33 F8 a0 a1 a2:=by kernel_rfl
noncomputable def P33 (a0:Cell) (a1:Cell) (a2:Int):Option Cell:=S33 P8 a0 a1 a2
noncomputable def k33:CSpec:=⟨33,[(.st .cell),(.st .cell),.int],(.st .cell),fun x=>P33 x.1 x.2.1 x.2.2,false,[]⟩
theorem r33 {S:Seat} (h:Ok1 S 33 tf33) (h8:Rt S k8):Rt S k33:=fun x y hy =>
 Ok1.sound h (C:=[k8]) (CSound.cons h8 CSound.nil) rfl rfl rfl ((s33 P8 x.1 x.2.1 x.2.2).trans hy) rfl
noncomputable def S32 (F33:Cell→Cell→Int→(Option Cell)) (a0:Cell) (a1:Cell):Option Cell :=
 bno (F33 a0 a1 (1:Int)) fun y1 =>
 some y1
noncomputable def P32 (a0:Cell) (a1:Cell):Option Cell:=S32 P33 a0 a1
noncomputable def S52 (F30:Int→(Option Bool)) (a0:Cell):Option Err :=
 jn (σ:=Bool) (α:=Err) (br (decide ((Cell.k a0) < (0:Int)))
 (inlO (some true))
 (br (decide ((2:Int) < (Cell.k a0)))
 (inlO (some true))
 (bno (F30 (Cell.n a0)) fun y1 =>
 br (!y1)
 (inlO (some true))
 (br (decide (¬ (Cell.k a0)=(1:Int)))
 (inlO (some (decide (¬ (Cell.n a0)=(0:Int)))))
 (inlO (some false)))))) fun x2 =>
 br x2
 (some (Err.no (1:Int)))
 (some Err.nil)
noncomputable def P52 (a0:Cell):Option Err:=S52 P30 a0
noncomputable def S31_32 (F32:Cell→Cell→(Option Cell)) (F52:Cell→(Option Err)) (a0:Cell) (a1:Cell):Option (Cell×Err) :=
 bno (F52 a0) fun y1 =>
 br (!(Err.isNil y1))
 (some (Cell.mk (0:Int) (0:Int),y1))
 (bno (F52 a1) fun y2 =>
 br (!(Err.isNil y2))
 (some (Cell.mk (0:Int) (0:Int),y2))
 (bno (F32 a0 a1) fun y3 =>
 some (y3,Err.nil)))
noncomputable def P31_32 (a0:Cell) (a1:Cell):Option (Cell×Err):=S31_32 P32 P52 a0 a1
noncomputable def S9 (F31_32:Cell→Cell→(Option (Cell×Err))) (a0:Cell) (a1:Cell):Option (Cell×Err) :=
 bno (F31_32 a0 a1) fun y1 =>
 some (y1.1,y1.2)
noncomputable def P9 (a0:Cell) (a1:Cell):Option (Cell×Err):=S9 P31_32 a0 a1
def tc62:TCode :=
 .seq (.region [
 oq 2 (.mov (.c (.int .i64 0)))] [] false)
  (.seq (.region [
 oq 3 (.mov (.t 0)),
 oq 4 (.mov (.t 0)),
 oq 5 (.un .neg (.t 4)),
 oq 6 (.max2 (.t 3) (.t 5)),
 oq 2 (.mov (.t 6))] [] false)
  (.ret))
def tf62:TFunc:={ np:=1,nt:=7,res:=[.tmp 2],own:=false,body:=tc62 }
noncomputable def S62 (a0:Int):Option Int :=
 some (maxT a0 (wi (0 - a0)))
theorem s62 (a0:Int):tf62.run [] [.int] .int a0=S62 a0:=by kernel_rfl
noncomputable def P62 (a0:Int):Option Int:=S62 a0
noncomputable def k62:CSpec:=⟨62,[.int],.int,fun x=>P62 x,false,[]⟩
theorem r62 {S:Seat} (h:Ok1 S 62 tf62):Rt S k62:=fun x y hy =>
 Ok1.sound h (C:=[]) CSound.nil rfl rfl rfl ((s62 x).trans hy) rfl
def tc34:TCode :=
 .seq (.region [
 oq 2 (.box (.t 0)),
 oq 3 (.box (.t 1)),
 oq 4 (.alloc [.int .i64 0,.int .i64 0])] [] false)
  (.seq (.block 0 (.seq (.regionJ ⟨[.slot 5 .bool],[6,7,8,9,10,11,12,13],[],[]⟩ [
 oq 6 (.fa 0 (.t 2)),
 oq 7 (.load none (.t 6)),
 oq 8 (.bin .int .eql (.t 7) (.c (.int .i64 2))),
 oq 9 (.mov (.t 8)),
  ⟨some 10,.fa 0 (.t 3),(some (9,false)),[]⟩,
  ⟨some 11,.load none (.t 10),(some (9,false)),[]⟩,
  ⟨some 12,.bin .int .eql (.t 11) (.c (.int .i64 2)),(some (9,false)),[]⟩,
 oq 13 (.pick (.t 9) (.c (.bool true)) (.t 12)),
 oq 5 (.mov (.t 13))] [] false)
    (.cond (.t 5)
     (.seq (.region [
 oq 14 (.build [.int .i64 0,.int .i64 0] [(0,1,(.c (.int .i64 2)))]),
  ⟨none,.store 2 (.t 4) (.t 14),none,[]⟩] [] false)
    (.ret))
    (.seq (.regionJ ⟨[.slot 15 .bool],[16,17,18,19,20,21,22,23],[],[]⟩ [
 oq 16 (.fa 0 (.t 2)),
 oq 17 (.load none (.t 16)),
 oq 18 (.bin .int .eql (.t 17) (.c (.int .i64 0))),
 oq 19 (.mov (.t 18)),
  ⟨some 20,.fa 0 (.t 3),(some (19,false)),[]⟩,
  ⟨some 21,.load none (.t 20),(some (19,false)),[]⟩,
  ⟨some 22,.bin .int .eql (.t 21) (.c (.int .i64 0)),(some (19,false)),[]⟩,
 oq 23 (.pick (.t 19) (.c (.bool true)) (.t 22)),
 oq 15 (.mov (.t 23))] [] false)
   (.cond (.t 15)
    (.seq (.region [
 oq 24 (.build [.int .i64 0,.int .i64 0] []),
  ⟨none,.store 2 (.t 4) (.t 24),none,[]⟩] [] false)
    (.ret))
    (.seq (.regionJ ⟨[.slot 25 .bool],[26,27,28,29,30,31,32,33,34,35,36,37,38],[],[]⟩ [
 oq 26 (.fa 1 (.t 2)),
  ⟨some 27,.load none (.t 26),none,[0]⟩,
  ⟨some 28,.bin .int .neq (.t 27) (.c (.int .i64 0)),none,[1]⟩,
  ⟨some 29,.mov (.t 28),none,[2]⟩,
  ⟨some 30,.fa 1 (.t 3),(some (29,true)),[3]⟩,
  ⟨some 31,.load none (.t 30),(some (29,true)),[4,3]⟩,
  ⟨some 32,.call false [] 62 [(.t 31)],(some (29,true)),[5,3,3]⟩,
  ⟨some 33,.fa 1 (.t 2),(some (29,true)),[3]⟩,
  ⟨some 34,.load none (.t 33),(some (29,true)),[7,3]⟩,
  ⟨some 35,.call false [] 62 [(.t 34)],(some (29,true)),[8,6,3]⟩,
  ⟨some 36,.bin .int .quo (.c (.int .i64 1000000000000)) (.t 35),(some (29,true)),[9,3]⟩,
  ⟨some 37,.bin .int .gtr (.t 32) (.t 36),(some (29,true)),[6,10,3]⟩,
  ⟨some 38,.pick (.t 29) (.t 37) (.c (.bool false)),none,[3,11]⟩,
  ⟨some 25,.mov (.t 38),none,[12,9]⟩] [] true)
        (.cond (.t 25)
         (.seq (.region [
 oq 39 (.build [.int .i64 0,.int .i64 0] [(0,1,(.c (.int .i64 2)))]),
  ⟨none,.store 2 (.t 4) (.t 39),none,[]⟩] [] false)
    (.ret))
    (.skip))))))))
  (.seq (.region [
 oq 40 (.fa 1 (.t 2)),
 oq 41 (.load none (.t 40)),
 oq 42 (.fa 1 (.t 3)),
 oq 43 (.load none (.t 42)),
 oq 44 (.bin .int .mul (.t 41) (.t 43)),
 oq 45 (.call false [] 8 [(.t 44)]),
  ⟨none,.store 2 (.t 4) (.t 45),none,[]⟩] [] false)
  (.ret)))
def tf34:TFunc:={ np:=2,nt:=46,res:=[.cell 4 (some 2)],own:=false,body:=tc34 }
noncomputable def S34 (F62:Int→(Option Int)) (F8:Int→(Option Cell)) (a0:Cell) (a1:Cell):Option Cell :=
 jn (σ:=Bool) (α:=Cell) (br (decide ((Cell.k a0)=(2:Int)))
 (inlO (some true))
 (inlO (some (decide ((Cell.k a1)=(2:Int)))))) fun x1 =>
 br x1
 (some (Cell.mk (2:Int) (0:Int)))
 (jn (σ:=Bool) (α:=Cell) (br (decide ((Cell.k a0)=(0:Int)))
 (inlO (some true))
 (inlO (some (decide ((Cell.k a1)=(0:Int)))))) fun x2 =>
 br x2
 (some (Cell.mk (0:Int) (0:Int)))
 (jn (σ:=Bool) (α:=Cell) (br (decide (¬ (Cell.n a0)=(0:Int)))
 (bno (F62 (Cell.n a1)) fun y3 =>
 bno (F62 (Cell.n a0)) fun y4 =>
 ck (decide (¬ y4=0)) <|
 inlO (some (decide ((wi (Int.tdiv (1000000000000:Int) y4)) < y3))))
 (inlO (some false))) fun x5 =>
 br x5
 (some (Cell.mk (2:Int) (0:Int)))
 (bno (F8 (wi ((Cell.n a0) * (Cell.n a1)))) fun y6 =>
 some y6)))
theorem s34 (F62:Int→(Option Int)) (F8:Int→(Option Cell)) (a0:Cell) (a1:Cell):tf34.run [⟨62,[.int],.int,fun x=>F62 x,false,[]⟩,
 ⟨8,[.int],(.st .cell),fun x=>F8 x,false,[]⟩] [(.st .cell),(.st .cell)] (.st .cell) (a0,a1)=S34 F62 F8 a0 a1:=by kernel_rfl
noncomputable def P34 (a0:Cell) (a1:Cell):Option Cell:=S34 P62 P8 a0 a1
noncomputable def k34:CSpec:=⟨34,[(.st .cell),(.st .cell)],(.st .cell),fun x=>P34 x.1 x.2,false,[]⟩
theorem r34 {S:Seat} (h:Ok1 S 34 tf34) (h62:Rt S k62) (h8:Rt S k8):Rt S k34:=fun x y hy =>
 Ok1.sound h (C:=[k62,k8]) (CSound.cons h62 (CSound.cons h8 CSound.nil)) rfl rfl rfl ((s34 P62 P8 x.1 x.2).trans hy) rfl
noncomputable def S31_34 (F34:Cell→Cell→(Option Cell)) (F52:Cell→(Option Err)) (a0:Cell) (a1:Cell):Option (Cell×Err) :=
 bno (F52 a0) fun y1 =>
 br (!(Err.isNil y1))
 (some (Cell.mk (0:Int) (0:Int),y1))
 (bno (F52 a1) fun y2 =>
 br (!(Err.isNil y2))
 (some (Cell.mk (0:Int) (0:Int),y2))
 (bno (F34 a0 a1) fun y3 =>
 some (y3,Err.nil)))
noncomputable def P31_34 (a0:Cell) (a1:Cell):Option (Cell×Err):=S31_34 P34 P52 a0 a1
noncomputable def S10 (F31_34:Cell→Cell→(Option (Cell×Err))) (a0:Cell) (a1:Cell):Option (Cell×Err) :=
 bno (F31_34 a0 a1) fun y1 =>
 some (y1.1,y1.2)
noncomputable def P10 (a0:Cell) (a1:Cell):Option (Cell×Err):=S10 P31_34 a0 a1
def tc35:TCode :=
 .seq (.region [
 oq 2 (.box (.t 0)),
 oq 3 (.box (.t 1)),
 oq 4 (.alloc [.int .i64 0,.int .i64 0])] [] false)
  (.seq (.block 0 (.seq (.regionJ ⟨[.slot 5 .bool],[6,7,8,9,10,11,12,13],[],[]⟩ [
 oq 6 (.fa 0 (.t 2)),
 oq 7 (.load none (.t 6)),
 oq 8 (.bin .int .eql (.t 7) (.c (.int .i64 2))),
 oq 9 (.mov (.t 8)),
  ⟨some 10,.fa 0 (.t 3),(some (9,false)),[]⟩,
  ⟨some 11,.load none (.t 10),(some (9,false)),[]⟩,
  ⟨some 12,.bin .int .eql (.t 11) (.c (.int .i64 2)),(some (9,false)),[]⟩,
 oq 13 (.pick (.t 9) (.c (.bool true)) (.t 12)),
 oq 5 (.mov (.t 13))] [] false)
    (.cond (.t 5)
     (.seq (.region [
 oq 14 (.build [.int .i64 0,.int .i64 0] [(0,1,(.c (.int .i64 2)))]),
  ⟨none,.store 2 (.t 4) (.t 14),none,[]⟩] [] false)
    (.ret))
    (.seq (.regionJ ⟨[.slot 15 .bool],[16,17,18,19,20,21,22,23],[],[]⟩ [
 oq 16 (.fa 0 (.t 2)),
 oq 17 (.load none (.t 16)),
 oq 18 (.bin .int .eql (.t 17) (.c (.int .i64 0))),
 oq 19 (.mov (.t 18)),
  ⟨some 20,.fa 0 (.t 3),(some (19,false)),[]⟩,
  ⟨some 21,.load none (.t 20),(some (19,false)),[]⟩,
  ⟨some 22,.bin .int .eql (.t 21) (.c (.int .i64 0)),(some (19,false)),[]⟩,
 oq 23 (.pick (.t 19) (.c (.bool true)) (.t 22)),
 oq 15 (.mov (.t 23))] [] false)
   (.cond (.t 15)
    (.seq (.region [
 oq 24 (.build [.int .i64 0,.int .i64 0] []),
  ⟨none,.store 2 (.t 4) (.t 24),none,[]⟩] [] false)
    (.ret))
    (.seq (.region [
 oq 26 (.fa 1 (.t 3)),
 oq 27 (.load none (.t 26)),
 oq 28 (.bin .int .eql (.t 27) (.c (.int .i64 0))),
 oq 25 (.mov (.t 28))] [] false)
   (.cond (.t 25)
    (.seq (.region [
 oq 29 (.build [.int .i64 0,.int .i64 0] [(0,1,(.c (.int .i64 2)))]),
  ⟨none,.store 2 (.t 4) (.t 29),none,[]⟩] [] false)
    (.ret))
    (.skip))))))))
  (.seq (.region [
 oq 30 (.fa 1 (.t 2)),
 oq 31 (.load none (.t 30)),
 oq 32 (.fa 1 (.t 3)),
 oq 33 (.load none (.t 32)),
 oq 34 (.bin .int .quo (.t 31) (.t 33)),
 oq 35 (.call false [] 8 [(.t 34)]),
  ⟨none,.store 2 (.t 4) (.t 35),none,[]⟩] [] false)
  (.ret)))
def tf35:TFunc:={ np:=2,nt:=36,res:=[.cell 4 (some 2)],own:=false,body:=tc35 }
noncomputable def S35 (F8:Int→(Option Cell)) (a0:Cell) (a1:Cell):Option Cell :=
 jn (σ:=Bool) (α:=Cell) (br (decide ((Cell.k a0)=(2:Int)))
 (inlO (some true))
 (inlO (some (decide ((Cell.k a1)=(2:Int)))))) fun x1 =>
 br x1
 (some (Cell.mk (2:Int) (0:Int)))
 (jn (σ:=Bool) (α:=Cell) (br (decide ((Cell.k a0)=(0:Int)))
 (inlO (some true))
 (inlO (some (decide ((Cell.k a1)=(0:Int)))))) fun x2 =>
 br x2
 (some (Cell.mk (0:Int) (0:Int)))
 (br (decide ((Cell.n a1)=(0:Int)))
 (some (Cell.mk (2:Int) (0:Int)))
 (ck (decide (¬ (Cell.n a1)=0)) <|
 bno (F8 (wi (Int.tdiv (Cell.n a0) (Cell.n a1)))) fun y3 =>
 some y3)))
theorem s35 (F8:Int→(Option Cell)) (a0:Cell) (a1:Cell):tf35.run [⟨8,[.int],(.st .cell),fun x=>F8 x,false,[]⟩] [(.st .cell),(.st .cell)] (.st .cell) (a0,a1)=S35 F8 a0 a1:=by kernel_rfl
noncomputable def P35 (a0:Cell) (a1:Cell):Option Cell:=S35 P8 a0 a1
noncomputable def k35:CSpec:=⟨35,[(.st .cell),(.st .cell)],(.st .cell),fun x=>P35 x.1 x.2,false,[]⟩
theorem r35 {S:Seat} (h:Ok1 S 35 tf35) (h8:Rt S k8):Rt S k35:=fun x y hy =>
 Ok1.sound h (C:=[k8]) (CSound.cons h8 CSound.nil) rfl rfl rfl ((s35 P8 x.1 x.2).trans hy) rfl
noncomputable def S31_35 (F35:Cell→Cell→(Option Cell)) (F52:Cell→(Option Err)) (a0:Cell) (a1:Cell):Option (Cell×Err) :=
 bno (F52 a0) fun y1 =>
 br (!(Err.isNil y1))
 (some (Cell.mk (0:Int) (0:Int),y1))
 (bno (F52 a1) fun y2 =>
 br (!(Err.isNil y2))
 (some (Cell.mk (0:Int) (0:Int),y2))
 (bno (F35 a0 a1) fun y3 =>
 some (y3,Err.nil)))
noncomputable def P31_35 (a0:Cell) (a1:Cell):Option (Cell×Err):=S31_35 P35 P52 a0 a1
noncomputable def S11 (F31_35:Cell→Cell→(Option (Cell×Err))) (a0:Cell) (a1:Cell):Option (Cell×Err) :=
 bno (F31_35 a0 a1) fun y1 =>
 some (y1.1,y1.2)
noncomputable def P11 (a0:Cell) (a1:Cell):Option (Cell×Err):=S11 P31_35 a0 a1
noncomputable def S36 (F33:Cell→Cell→Int→(Option Cell)) (a0:Cell) (a1:Cell):Option Cell :=
 bno (F33 a0 a1 (-1:Int)) fun y1 =>
 some y1
noncomputable def P36 (a0:Cell) (a1:Cell):Option Cell:=S36 P33 a0 a1
noncomputable def S31_36 (F36:Cell→Cell→(Option Cell)) (F52:Cell→(Option Err)) (a0:Cell) (a1:Cell):Option (Cell×Err) :=
 bno (F52 a0) fun y1 =>
 br (!(Err.isNil y1))
 (some (Cell.mk (0:Int) (0:Int),y1))
 (bno (F52 a1) fun y2 =>
 br (!(Err.isNil y2))
 (some (Cell.mk (0:Int) (0:Int),y2))
 (bno (F36 a0 a1) fun y3 =>
 some (y3,Err.nil)))
noncomputable def P31_36 (a0:Cell) (a1:Cell):Option (Cell×Err):=S31_36 P36 P52 a0 a1
noncomputable def S12 (F31_36:Cell→Cell→(Option (Cell×Err))) (a0:Cell) (a1:Cell):Option (Cell×Err) :=
 bno (F31_36 a0 a1) fun y1 =>
 some (y1.1,y1.2)
noncomputable def P12 (a0:Cell) (a1:Cell):Option (Cell×Err):=S12 P31_36 a0 a1
end Ab
end
section
namespace Ab
open Go Go.RowKit
set_option linter.unusedVariables false
set_option linter.unusedSimpArgs false
def cloneC (frz:Bool) (z:Nat) (zero:List Value):TCode :=
 .seq (.region [⟨some 2,.mov (.c (.slice none 0 0)),none,[]⟩] [] false)
  (.seq (.seq (.region [⟨some 3,.mov (.t 0),none,[]⟩,⟨some 4,.eqn true false (.t 3),none,[]⟩] [] false)
    (.cond (.t 4) (.seq (.region [⟨some 2,.mov (.c (.slice none 0 0)),none,[]⟩] [] false) .ret) .skip))
   (.seq (.region [⟨some 5,.bslice frz z zero 0 [],none,[]⟩,⟨some 6,.mov (.t 0),none,[]⟩,⟨some 7,.app z (.t 5) (.t 6),none,[]⟩,⟨some 2,.mov (.t 7),none,[]⟩] [] false) .ret))
def cloneF (frz:Bool) (z:Nat) (zero:List Value):TFunc:={ np:=1,nt:=8,res:=[.tmp 2],own:=true,body:=cloneC frz z zero }
section
variable {S:Seat} {id:Nat} {frz:Bool} {z:Nat} {zero:List Value}
theorem clone_run {M:Rets} {x:AV} {es:List (List AV)} (hx:∀ (d:Nat) (st:ASt),st.ev (.t 3)=x→aop (.eqn true false (.t 3)) d st=some (.v (.bool false),st)) (he:∀ hp,elemsOf hp z x=some es)
  (hroom:es.length≤roomA) (st:ASt) (h0:st.fr 0=x) (h1:st.hp=fun _=>none):∃ st',Ex M (cloneC frz z zero).er st .ret st'∧export_ true [] [.tmp 2] st'=some (.own z es,[]):=by
 let st1:=st.put 2 (.v (.slice none 0 0))
 let st2:=st1.put 3 x
 let st3:=st2.put 4 (.v (.bool false))
 let st4:=(st3.setH 5 (some (.arr z []))).put 5 (.lsl 5 z 0 0)
 let st5:=st4.put 6 x
 let st6:=((st5.scrub 5).setH 5 (some (.arr z es))).put 7 (.lsl 5 z 0 es.length)
 let st7:=st6.put 2 (.lsl 5 z 0 es.length)
 have e0:st1.fr 0=x:=h0
 have e3:st4.fr 0=x:=h0
 have a1:aop (.mov (.t 0)) 3 st1=some (x,st1):=by show some (st1.fr 0,st1)=_;rw [e0]
 have a2:aop (.eqn true false (.t 3)) 4 st2=some (.v (.bool false),st2):=hx 4 st2 rfl
 have a3:aop (.bslice frz z zero 0 []) 5 st3=some (.lsl 5 z 0 0,st3.setH 5 (some (.arr z []))):=by
  have hp5:st3.hp 5=none:=by show st.hp 5=none;rw [h1]
  have hr:partRefs st3 []=[]:=rfl
  simp only [aop,hp5,optAll,hr,or_true,if_true,ASt.freezeL,List.replicate_zero,List.foldl_nil]
 have a4:aop (.mov (.t 0)) 6 st4=some (x,st4):=by show some (st4.fr 0,st4)=_;rw [e3]
 have a5:aop (.app z (.t 5) (.t 6)) 7 st5=some (.lsl 5 z 0 es.length,(st5.scrub 5).setH 5 (some (.arr z es))):=by
  have e6:st5.ev (.t 6)=x:=rfl
  have e5:st5.ev (.t 5)=.lsl 5 z 0 0:=rfl
  have hp5:st5.hp 5=some (.arr z []):=rfl
  simp only [aop,e6,he,e5,hp5,List.length_nil,Nat.zero_add,List.nil_append]
  rw [if_pos ⟨rfl,trivial,trivial,trivial,hroom⟩]
 refine ⟨st7,.seqN (.region (.cons (.inl ⟨rfl,_,st,rfl,rfl⟩) (.nil _))) (.seqN (b:=ACode.seq _ _) (st1:=st3) (.seqN (.region (.cons (.inl ⟨rfl,_,_,a1,rfl⟩) (.cons (.inl ⟨rfl,_,_,a2,rfl⟩) (.nil _)))) (.cond (t:=false) rfl (.skip _)))
  (.seqN (.region (.cons (.inl ⟨rfl,_,_,a3,rfl⟩) (.cons (.inl ⟨rfl,_,_,a4,rfl⟩) (.cons (.inl ⟨rfl,_,_,a5,rfl⟩) (.cons (.inl ⟨rfl,_,_,rfl,rfl⟩) (.nil _)))))) (.ret _))), ?_⟩
 have e2:st7.fr 2=.lsl 5 z 0 es.length:=rfl
 have hp5:st7.hp 5=some (.arr z es):=rfl
 have x1:expOwn st7 (.lsl 5 z 0 es.length)=some (.own z es):=by simp only [expOwn,hp5];rw [if_pos ⟨trivial,trivial,rfl⟩]
 simp only [export_,optAll,resVal,e2,if_true,x1,oneOrTup]
 rw [if_pos (by exact ⟨rfl,trivial⟩)]
theorem clone_some (h:Ok1 S id (cloneF frz z zero)) {x:AV} {es:List (List AV)} (hx:∀ (d:Nat) (st:ASt),st.ev (.t 3)=x→aop (.eqn true false (.t 3)) d st=some (.v (.bool false),st)) (he:∀ hp,elemsOf hp z x=some es) (ho:isOwn x=false)
  (hroom:es.length≤roomA):(realRets S).ret id [x] (.own z es) []:=by
 obtain ⟨st',k1,k2⟩:=clone_run (M:=realRets S) (frz:=frz) (zero:=zero) hx he hroom (enter [] [x]) (by
  clear hx he
  cases x with
  | own=>simp [isOwn] at ho
  | _=>rfl) (enterHp_none [] 0 [x] (by simpa using ho))
 exact h id (cloneF frz z zero).er [x] (.own z es) [] (if_pos rfl) ⟨rfl,by simp [argsFit,ho,handed,TFunc.er,cloneF],.ret,st',k1,.inr rfl,k2⟩
theorem clone_nil (h:Ok1 S id (cloneF frz z zero)):(realRets S).ret id [aN] aN []:=by
 refine h id (cloneF frz z zero).er [aN] aN [] (if_pos rfl) ⟨rfl,rfl,.ret,_,.seqN (.region (.cons (.inl ⟨rfl,_,_,rfl,rfl⟩) (.nil _))) (.seqE (.seqN (.region (.cons (.inl ⟨rfl,_,_,rfl,rfl⟩) (.cons (.inl ⟨rfl,_,_,rfl,rfl⟩) (.nil _)))) (.cond (t:=true) rfl (.seqN (.region (.cons (.inl ⟨rfl,_,_,rfl,rfl⟩) (.nil _))) (.ret _)))) (by intro e;cases e)),.inr rfl,rfl⟩
theorem clone_ret (h:Ok1 S id (cloneF frz z zero)) {es:List (List AV)} (hroom:es.length≤roomA):(realRets S).ret id [.sl z es] (.own z es) []:=by
 cases es with
 | cons e es =>
  refine clone_some h (fun d st hs => ?_) (fun hp=>by simp [elemsOf]) rfl hroom
  simp only [aop,hs,if_true]
 | nil =>
  intro g hg
  refine realM_ofJ (fun A w vs hl hA hJ ha => ?_) (by simp [isOwn])
  have hv:=ha 0 _ rfl
  have c1:(realRets S).ret id [aN] (.own z []) []:=ret_rw1 rfl rfl (.inr (.inr ⟨rfl,z,rfl⟩)) (clone_nil h)
  have c2:∀ a cap,(realRets S).ret id [.v (.slice (some a) 0 cap)] (.own z []) []:=fun a cap =>
   clone_some h (fun d st hs=>by simp only [aop,hs,if_true]) (fun hp=>rfl) rfl (by simp [roomA])
  have use:∀ x,(realRets S).ret id [x] (.own z []) []→isOwn x=false→VR0 S A w x (vs.getD 0 undef)→Calls S.P g vs w fun e w'=>∃ v,e=.returned v∧KeepO S.jg w w'∧S.jn w'∧RetR S A w w' (.own z []) v:=fun x hr ho hx =>
   (hr g hg).old (by simpa using ho) A w vs hl hA hJ fun i y hy=>by
    cases i with
    | zero=>simp at hy;subst hy;exact hx
    | succ i=>simp at hy
  have hs:=VR.sl_inv (σ:=fun _=>none) (.of0 hv)
  rcases hs with ⟨_,hr⟩ | ⟨b,o',cap,u,hr,_⟩ | ⟨_,a,cap,hr⟩
  ·exact use aN c1 rfl (by rw [hr];exact .v _)
  ·exact use _ (c2 _ cap) rfl (by rw [hr];exact .v _)
  ·exact use _ (c2 a cap) rfl (by rw [hr];exact .v _)
end
def PClone {α:Type} (xs:List α):Option (List α):=ck (decide (xs.length≤roomA)) (some xs)
theorem PClone_some {α:Type} {xs ys:List α} (h:PClone xs=some ys):xs.length≤roomA∧ys=xs:=by
 obtain ⟨h1,h2⟩:=ck_some h
 exact ⟨of_decide_eq_true h1,(Option.some.inj h2).symm⟩
theorem clone_spec {S:Seat} {id:Nat} {frz:Bool} {zero:List Value} {t:Ty} (h:Ok1 S id (cloneF frz t.z zero)) (xs:List t.den) (ys:List t.den) (hy:PClone xs=some ys):(realRets S).ret id (encAL [.sl t] xs) (encA (.own t) ys) []:=by
 obtain ⟨h1,rfl⟩:=PClone_some hy
 exact clone_ret h (by rw [List.length_map];exact h1)
noncomputable def P76 (xs:List Int):Option (List Int):=PClone xs
def tf76:TFunc:=cloneF false 1 [.int .i64 0]
noncomputable def k76:CSpec:=⟨76,[.sl .int],.own .int,fun x=>P76 x,false,[]⟩
theorem r76 {S:Seat} (h:Ok1 S 76 tf76):Rt S k76:=fun x y hy=>clone_spec (t:=.int) h x y hy
end Ab
end
section
namespace Ab
open Go
set_option linter.unusedVariables false
set_option maxRecDepth 100000
def tc67:TCode :=
 .seq (.region [
 oq 2 (.mov (.c (.bool false)))] [] false)
  (.seq (.regionJ ⟨[.slot 2 .bool],[3,4,5,6,7,8],[],[]⟩ [
 oq 3 (.mov (.t 0)),
 oq 4 (.bin .int .lss (.t 3) (.c (.int .u8 97))),
 oq 5 (.mov (.t 4)),
  ⟨some 6,.mov (.t 0),(some (5,false)),[]⟩,
  ⟨some 7,.bin .int .gtr (.t 6) (.c (.int .u8 122)),(some (5,false)),[]⟩,
 oq 8 (.pick (.t 5) (.c (.bool true)) (.t 7)),
 oq 2 (.mov (.t 8))] [] false)
  (.ret))
def tf67:TFunc:={ np:=1,nt:=9,res:=[.tmp 2],own:=false,body:=tc67 }
noncomputable def S67 (a0:Int):Option Bool :=
 jn (σ:=Bool) (α:=Bool) (br (decide (a0 < (97:Int)))
 (inlO (some true))
 (inlO (some (decide ((122:Int) < a0))))) fun x1 =>
 some x1
theorem s67 (a0:Int):tf67.run [] [.u8] .bool a0=S67 a0:=by kernel_rfl
noncomputable def P67 (a0:Int):Option Bool:=S67 a0
noncomputable def k67:CSpec:=⟨67,[.u8],.bool,fun x=>P67 x,false,[]⟩
theorem r67 {S:Seat} (h:Ok1 S 67 tf67):Rt S k67:=fun x y hy =>
 Ok1.sound h (C:=[]) CSound.nil rfl rfl rfl ((s67 x).trans hy) rfl
def tc75:TCode :=
 .seq (.region [
 oq 4 (.mov (.c (.int .i64 0)))] [] false)
  (.seq (.seq (.region [
 oq 6 (.mov (.t 0)),
 oq 7 (.len false (.t 6)),
 oq 8 (.mov (.c (.int .i64 0)))] [] false)
  (.loop ⟨[.slot 8 .int],[5,9,10,11,12,13,14,15,16,18],[],[]⟩ 0 (.seq (.region [
 oq 9 (.bin .int .lss (.t 8) (.t 7))] [] false)
    (.seq (.cond (.t 9)
     (.skip)
     (.exit 0))
    (.seq (.block 1 (.seq (.region [
 oq 10 (.mov (.t 8)),
 oq 5 (.mov (.t 10))] [] false)
      (.seq (.region [
 oq 11 (.mov (.t 1)),
 oq 12 (.mov (.t 0)),
 oq 13 (.mov (.t 5)),
 oq 14 (.ia 1 (.t 12) (.t 13)),
 oq 15 (.load none (.t 14)),
 oq 16 (.calld false (.t 11) [(.t 15)])] [] false)
   (.cond (.t 16)
    (.seq (.region [
 oq 17 (.mov (.t 5)),
 oq 4 (.mov (.t 17))] [] false)
   (.ret))
   (.skip)))))
    (.region [
 oq 18 (.bin .int .add (.t 8) (.c (.int .i64 1))),
 oq 8 (.mov (.t 18))] [] false))))))
  (.seq (.region [
 oq 4 (.mov (.c (.int .i64 (-1))))] [] false)
  (.ret)))
def tf75:TFunc:={ np:=2,nt:=19,res:=[.tmp 4],own:=false,body:=tc75 }
noncomputable def S75_67_L1 (F67:Int→(Option Bool)) (a0:(List UInt8)) (x1:Int):Option (LR Int Int) :=
 br (decide (x1 < ((List.length a0:Nat):Int)))
 (bno (lookI a0 x1) fun y2 =>
 bno (F67 ((UInt8.toNat y2:Nat):Int)) fun y3 =>
 br y3
 (finO (some x1))
 (nxO (some (wi (x1+(1:Int))))))
 (dnO (some x1))
noncomputable def S75_67 (F67:Int→(Option Bool)) (a0:(List UInt8)):Option Int :=
 lp (S75_67_L1 F67 a0) (0:Int) fun x4 =>
 some (-1:Int)
theorem s75_67 (F67:Int→(Option Bool)) (a0:(List UInt8)):tf75.run [⟨67,[.u8],.bool,fun x=>F67 x,false,[]⟩] [(.sl .u8),(.fnc 67 [])] .int (a0,())=S75_67 F67 a0:=by kernel_rfl
noncomputable def P75_67 (a0:(List UInt8)):Option Int:=S75_67 P67 a0
noncomputable def k75_67:CSpec:=⟨75,[(.sl .u8),(.fnc 67 [])],.int,fun x=>P75_67 x.1,false,[]⟩
theorem r75_67 {S:Seat} (h:Ok1 S 75 tf75) (h67:Rt S k67):Rt S k75_67:=fun x y hy =>
 Ok1.sound h (C:=[k67]) (CSound.cons h67 CSound.nil) rfl rfl rfl ((s75_67 P67 x.1).trans hy) rfl
def tc66:TCode :=
 .seq (.region [
 oq 4 (.mov (.c (.bool false)))] [] false)
  (.seq (.region [
 oq 5 (.mov (.t 0)),
 oq 6 (.mov (.t 1)),
 oq 7 (.call false [] 75 [(.t 5),(.t 6)]),
 oq 8 (.bin .int .geq (.t 7) (.c (.int .i64 0))),
 oq 4 (.mov (.t 8))] [] false)
  (.ret))
def tf66:TFunc:={ np:=2,nt:=9,res:=[.tmp 4],own:=false,body:=tc66 }
noncomputable def S66_67 (F75_67:(List UInt8)→(Option Int)) (a0:(List UInt8)):Option Bool :=
 bno (F75_67 a0) fun y1 =>
 some (decide ((0:Int)≤y1))
theorem s66_67 (F75_67:(List UInt8)→(Option Int)) (a0:(List UInt8)):tf66.run [⟨75,[(.sl .u8),(.fnc 67 [])],.int,fun x=>F75_67 x.1,false,[]⟩] [(.sl .u8),(.fnc 67 [])] .bool (a0,())=S66_67 F75_67 a0:=by kernel_rfl
noncomputable def P66_67 (a0:(List UInt8)):Option Bool:=S66_67 P75_67 a0
noncomputable def k66_67:CSpec:=⟨66,[(.sl .u8),(.fnc 67 [])],.bool,fun x=>P66_67 x.1,false,[]⟩
theorem r66_67 {S:Seat} (h:Ok1 S 66 tf66) (h75_67:Rt S k75_67):Rt S k66_67:=fun x y hy =>
 Ok1.sound h (C:=[k75_67]) (CSound.cons h75_67 CSound.nil) rfl rfl rfl ((s66_67 P75_67 x.1).trans hy) rfl
def tc41:TCode :=
 .seq (.region [
 oq 2 (.mov (.c (.nilIface)))] [] false)
  (.seq (.seq (.regionJ ⟨[.slot 14 .bool],[3,4,5,6,7,8,9,10,11,12,13],[],[]⟩ [
 oq 3 (.mov (.t 0)),
 oq 4 (.bin .str .eql (.t 3) (.c (.string ⟨#[]⟩))),
 oq 5 (.mov (.t 4)),
  ⟨some 6,.mov (.t 0),(some (5,false)),[]⟩,
  ⟨some 7,.len true (.t 6),(some (5,false)),[]⟩,
  ⟨some 8,.bin .int .gtr (.t 7) (.c (.int .i64 8)),(some (5,false)),[]⟩,
 oq 9 (.pick (.t 5) (.c (.bool true)) (.t 8)),
 oq 10 (.mov (.t 9)),
  ⟨some 11,.mov (.t 0),(some (10,false)),[]⟩,
  ⟨some 12,.cvs (.t 11),(some (10,false)),[]⟩,
  ⟨some 13,.call false [] 66 [(.t 12),(.f 67)],(some (10,false)),[]⟩,
 oq 14 (.pick (.t 10) (.c (.bool true)) (.t 13))] [] false)
  (.cond (.t 14)
   (.seq (.region [
 oq 15 (.ifc 1 (.c (.int .i64 2))),
 oq 2 (.mov (.t 15))] [] false)
    (.ret))
    (.skip)))
  (.seq (.region [
 oq 2 (.mov (.c (.nilIface)))] [] false)
  (.ret)))
def tf41:TFunc:={ np:=1,nt:=16,res:=[.tmp 2],own:=false,body:=tc41 }
noncomputable def S41 (F66_67:(List UInt8)→(Option Bool)) (a0:ByteArray):Option Err :=
 jn (σ:=Bool) (α:=Err) (br (decide (a0=(⟨#[]⟩:ByteArray)))
 (inlO (some true))
 (br (decide ((8:Int) < ((ByteArray.size a0:Nat):Int)))
 (inlO (some true))
 (bno (F66_67 ((ByteArray.data a0).toList)) fun y1 =>
 inlO (some y1)))) fun x2 =>
 br x2
 (some (Err.no (2:Int)))
 (some Err.nil)
theorem s41 (F66_67:(List UInt8)→(Option Bool)) (a0:ByteArray):tf41.run [⟨66,[(.sl .u8),(.fnc 67 [])],.bool,fun x=>F66_67 x.1,false,[]⟩] [.str] .err a0=S41 F66_67 a0:=by kernel_rfl
noncomputable def P41 (a0:ByteArray):Option Err:=S41 P66_67 a0
noncomputable def k41:CSpec:=⟨41,[.str],.err,fun x=>P41 x,false,[]⟩
theorem r41 {S:Seat} (h:Ok1 S 41 tf41) (h66_67:Rt S k66_67):Rt S k41:=fun x y hy =>
 Ok1.sound h (C:=[k66_67]) (CSound.cons h66_67 CSound.nil) rfl rfl rfl ((s41 P66_67 x).trans hy) rfl
def tc64:TCode :=
 .seq (.region [
 oq 2 (.box (.t 0)),
 oq 3 (.mov (.c (.bool false)))] [] false)
  (.seq (.region [
 oq 4 (.fa 0 (.t 2)),
 oq 5 (.load none (.t 4)),
 oq 6 (.load none (.t 1)),
 oq 7 (.bin .str .eql (.t 5) (.t 6)),
 oq 3 (.mov (.t 7))] [] false)
  (.ret))
def tf64:TFunc:={ np:=2,nt:=8,res:=[.tmp 3],own:=false,body:=tc64 }
noncomputable def S64 (a0:Member) (a1:ByteArray):Option Bool :=
 some (decide ((Member.name a0)=a1))
theorem s64 (a0:Member) (a1:ByteArray):tf64.run [] [(.st .member),(.bx .str)] .bool (a0,a1)=S64 a0 a1:=by kernel_rfl
noncomputable def P64 (a0:Member) (a1:ByteArray):Option Bool:=S64 a0 a1
noncomputable def k64:CSpec:=⟨64,[(.st .member),(.bx .str)],.bool,fun x=>P64 x.1 x.2,false,[]⟩
theorem r64 {S:Seat} (h:Ok1 S 64 tf64):Rt S k64:=fun x y hy =>
 Ok1.sound h (C:=[]) CSound.nil rfl rfl rfl ((s64 x.1 x.2).trans hy) rfl
def tc63:TCode :=
 .seq (.region [
 oq 4 (.mov (.c (.int .i64 0)))] [] false)
  (.seq (.seq (.region [
 oq 6 (.mov (.t 0)),
 oq 7 (.len false (.t 6)),
 oq 8 (.mov (.c (.int .i64 0)))] [] false)
  (.loop ⟨[.slot 8 .int],[5,9,10,11,12,13,14,15,16,18],[],[]⟩ 0 (.seq (.region [
 oq 9 (.bin .int .lss (.t 8) (.t 7))] [] false)
    (.seq (.cond (.t 9)
     (.skip)
     (.exit 0))
    (.seq (.block 1 (.seq (.region [
 oq 10 (.mov (.t 8)),
 oq 5 (.mov (.t 10))] [] false)
      (.seq (.region [
 oq 11 (.mov (.t 1)),
 oq 12 (.mov (.t 0)),
 oq 13 (.mov (.t 5)),
 oq 14 (.ia 4 (.t 12) (.t 13)),
 oq 15 (.load (some 4) (.t 14)),
 oq 16 (.calld false (.t 11) [(.t 15)])] [] false)
   (.cond (.t 16)
    (.seq (.region [
 oq 17 (.mov (.t 5)),
 oq 4 (.mov (.t 17))] [] false)
   (.ret))
   (.skip)))))
    (.region [
 oq 18 (.bin .int .add (.t 8) (.c (.int .i64 1))),
 oq 8 (.mov (.t 18))] [] false))))))
  (.seq (.region [
 oq 4 (.mov (.c (.int .i64 (-1))))] [] false)
  (.ret)))
def tf63:TFunc:={ np:=2,nt:=19,res:=[.tmp 4],own:=false,body:=tc63 }
noncomputable def S63_64_L1 (F64:Member→ByteArray→(Option Bool)) (a0:(List Member)) (a1:ByteArray) (x1:Int):Option (LR Int Int) :=
 br (decide (x1 < ((List.length a0:Nat):Int)))
 (bno (lookI a0 x1) fun y2 =>
 bno (F64 y2 a1) fun y3 =>
 br y3
 (finO (some x1))
 (nxO (some (wi (x1+(1:Int))))))
 (dnO (some x1))
noncomputable def S63_64 (F64:Member→ByteArray→(Option Bool)) (a0:(List Member)) (a1:ByteArray):Option Int :=
 lp (S63_64_L1 F64 a0 a1) (0:Int) fun x4 =>
 some (-1:Int)
theorem s63_64 (F64:Member→ByteArray→(Option Bool)) (a0:(List Member)) (a1:ByteArray):tf63.run [⟨64,[(.st .member),(.bx .str)],.bool,fun x=>F64 x.1 x.2,false,[]⟩] [(.sl .member),(.fnc 64 [(.bx .str)])] .int (a0,a1)=S63_64 F64 a0 a1:=by kernel_rfl
noncomputable def P63_64 (a0:(List Member)) (a1:ByteArray):Option Int:=S63_64 P64 a0 a1
noncomputable def k63_64:CSpec:=⟨63,[(.sl .member),(.fnc 64 [(.bx .str)])],.int,fun x=>P63_64 x.1 x.2,false,[]⟩
theorem r63_64 {S:Seat} (h:Ok1 S 63 tf63) (h64:Rt S k64):Rt S k63_64:=fun x y hy =>
 Ok1.sound h (C:=[k64]) (CSound.cons h64 CSound.nil) rfl rfl rfl ((s63_64 P64 x.1 x.2).trans hy) rfl
def tc37:TCode :=
 .seq (.region [
 oq 3 (.box (.t 1)),
 oq 4 (.mov (.c (.int .i64 0)))] [] false)
  (.seq (.region [
 oq 5 (.mov (.t 0)),
 oq 6 (.mkfn 64 [(.t 3)]),
 oq 7 (.call false [] 63 [(.t 5),(.t 6)]),
 oq 4 (.mov (.t 7))] [] false)
  (.ret))
def tf37:TFunc:={ np:=2,nt:=8,res:=[.tmp 4],own:=false,body:=tc37 }
noncomputable def S37 (F63_64:(List Member)→ByteArray→(Option Int)) (a0:(List Member)) (a1:ByteArray):Option Int :=
 bno (F63_64 a0 a1) fun y1 =>
 some y1
theorem s37 (F63_64:(List Member)→ByteArray→(Option Int)) (a0:(List Member)) (a1:ByteArray):tf37.run [⟨63,[(.sl .member),(.fnc 64 [(.bx .str)])],.int,fun x=>F63_64 x.1 x.2,false,[]⟩] [(.sl .member),.str] .int (a0,a1)=S37 F63_64 a0 a1:=by kernel_rfl
noncomputable def P37 (a0:(List Member)) (a1:ByteArray):Option Int:=S37 P63_64 a0 a1
noncomputable def k37:CSpec:=⟨37,[(.sl .member),.str],.int,fun x=>P37 x.1 x.2,false,[]⟩
theorem r37 {S:Seat} (h:Ok1 S 37 tf37) (h63_64:Rt S k63_64):Rt S k37:=fun x y hy =>
 Ok1.sound h (C:=[k63_64]) (CSound.cons h63_64 CSound.nil) rfl rfl rfl ((s37 P63_64 x.1 x.2).trans hy) rfl
def tc42:TCode :=
 .seq (.region [
 oq 4 (.mov (.c (.nilIface)))] [] false)
  (.seq (.region [
 oq 7 (.mov (.t 0)),
 oq 8 (.mov (.t 1)),
 oq 9 (.ia 4 (.t 7) (.t 8)),
 oq 10 (.load (some 4) (.t 9)),
 oq 5 (.alloc [.string ⟨#[]⟩,.int .i64 0,.int .i64 0,.string ⟨#[]⟩]),
  ⟨none,.store 4 (.t 5) (.t 10),none,[]⟩] [] false)
  (.seq (.seq (.region [
 oq 11 (.fa 0 (.t 5)),
 oq 12 (.load none (.t 11)),
 oq 13 (.call false [] 41 [(.t 12)]),
 oq 6 (.mov (.t 13))] [] false)
  (.seq (.region [
 oq 14 (.mov (.t 6)),
 oq 15 (.eqn false true (.t 14))] [] false)
  (.cond (.t 15)
   (.seq (.region [
 oq 16 (.mov (.t 6)),
 oq 4 (.mov (.t 16))] [] false)
    (.ret))
    (.skip))))
  (.seq (.block 0 (.seq (.region [
 oq 18 (.mov (.t 0)),
 oq 19 (.mov (.t 1)),
  ⟨some 20,.slc 4 (.t 18) none (some (.t 19)),none,[0,1]⟩,
 oq 21 (.fa 0 (.t 5)),
  ⟨some 22,.load none (.t 21),none,[3]⟩,
  ⟨some 23,.call false [] 37 [(.t 20),(.t 22)],none,[2,4]⟩,
  ⟨some 24,.bin .int .geq (.t 23) (.c (.int .i64 0)),none,[5]⟩,
  ⟨some 17,.mov (.t 24),none,[6,5]⟩] [] true)
   (.cond (.t 17)
    (.seq (.region [
 oq 25 (.ifc 1 (.c (.int .i64 7))),
 oq 4 (.mov (.t 25))] [] false)
      (.ret))
      (.seq (.regionJ ⟨[.slot 26 .bool],[27,28,29,30,31,32,33,34,35],[],[]⟩ [
 oq 27 (.fa 1 (.t 5)),
 oq 28 (.load none (.t 27)),
 oq 29 (.bin .int .lss (.t 28) (.c (.int .i64 (-1)))),
 oq 30 (.mov (.t 29)),
  ⟨some 31,.fa 1 (.t 5),(some (30,false)),[]⟩,
  ⟨some 32,.load none (.t 31),(some (30,false)),[]⟩,
  ⟨some 33,.mov (.t 1),(some (30,false)),[]⟩,
  ⟨some 34,.bin .int .geq (.t 32) (.t 33),(some (30,false)),[]⟩,
 oq 35 (.pick (.t 30) (.c (.bool true)) (.t 34)),
 oq 26 (.mov (.t 35))] [] false)
   (.cond (.t 26)
    (.seq (.region [
 oq 36 (.ifc 1 (.c (.int .i64 1))),
 oq 4 (.mov (.t 36))] [] false)
   (.ret))
   (.seq (.regionJ ⟨[.slot 37 .bool],[38,39,40,41,42,43,44,45,46,47,48,49],[],[]⟩ [
 oq 38 (.fa 1 (.t 5)),
 oq 39 (.load none (.t 38)),
 oq 40 (.bin .int .geq (.t 39) (.c (.int .i64 0))),
 oq 41 (.mov (.t 40)),
  ⟨some 42,.mov (.t 0),(some (41,true)),[]⟩,
  ⟨some 43,.fa 1 (.t 5),(some (41,true)),[]⟩,
  ⟨some 44,.load none (.t 43),(some (41,true)),[]⟩,
  ⟨some 45,.ia 4 (.t 42) (.t 44),(some (41,true)),[]⟩,
  ⟨some 46,.fa 3 (.t 45),(some (41,true)),[]⟩,
  ⟨some 47,.load none (.t 46),(some (41,true)),[]⟩,
  ⟨some 48,.bin .str .neq (.t 47) (.c (.string ⟨#[]⟩)),(some (41,true)),[]⟩,
 oq 49 (.pick (.t 41) (.t 48) (.c (.bool false))),
 oq 37 (.mov (.t 49))] [] false)
   (.cond (.t 37)
    (.seq (.region [
 oq 50 (.ifc 1 (.c (.int .i64 6))),
 oq 4 (.mov (.t 50))] [] false)
   (.ret))
   (.seq (.regionJ ⟨[.slot 51 .bool],[52,53,54,55,56,57,58,59],[],[]⟩ [
 oq 52 (.fa 2 (.t 5)),
 oq 53 (.load none (.t 52)),
 oq 54 (.bin .int .lss (.t 53) (.c (.int .i64 (-1)))),
 oq 55 (.mov (.t 54)),
  ⟨some 56,.fa 2 (.t 5),(some (55,false)),[]⟩,
  ⟨some 57,.load none (.t 56),(some (55,false)),[]⟩,
  ⟨some 58,.bin .int .gtr (.t 57) (.c (.int .i64 1)),(some (55,false)),[]⟩,
 oq 59 (.pick (.t 55) (.c (.bool true)) (.t 58)),
 oq 51 (.mov (.t 59))] [] false)
   (.cond (.t 51)
    (.seq (.region [
 oq 60 (.ifc 1 (.c (.int .i64 1))),
 oq 4 (.mov (.t 60))] [] false)
            (.ret))
            (.seq (.region [
 oq 62 (.fa 3 (.t 5)),
 oq 63 (.load none (.t 62)),
 oq 64 (.len true (.t 63)),
 oq 65 (.bin .int .gtr (.t 64) (.c (.int .i64 100))),
 oq 61 (.mov (.t 65))] [] false)
   (.cond (.t 61)
    (.seq (.region [
 oq 66 (.ifc 1 (.c (.int .i64 4))),
 oq 4 (.mov (.t 66))] [] false)
   (.ret))
   (.skip))))))))))))
  (.seq (.region [
 oq 4 (.mov (.c (.nilIface)))] [] false)
  (.ret)))))
def tf42:TFunc:={ np:=2,nt:=67,res:=[.tmp 4],own:=false,body:=tc42 }
noncomputable def S42 (F37:(List Member)→ByteArray→(Option Int)) (F41:ByteArray→(Option Err)) (a0:(List Member)) (a1:Int):Option Err :=
 bno (lookI a0 a1) fun y1 =>
 bno (F41 (Member.name y1)) fun y2 =>
 br (!(Err.isNil y2))
 (some y2)
 (ck (decide (0≤(0:Int)∧(0:Int)≤a1∧a1≤((List.length a0:Nat):Int))) <|
 bno (F37 (List.take (Int.toNat a1 - Int.toNat (0:Int)) (List.drop (Int.toNat (0:Int)) a0)) (Member.name y1)) fun y3 =>
 br (decide ((0:Int)≤y3))
 (some (Err.no (7:Int)))
 (jn (σ:=Bool) (α:=Err) (br (decide ((Member.parent y1) < (-1:Int)))
 (inlO (some true))
 (inlO (some (decide (a1≤(Member.parent y1)))))) fun x4 =>
 br x4
 (some (Err.no (1:Int)))
 (jn (σ:=Bool) (α:=Err) (br (decide ((0:Int)≤(Member.parent y1)))
 (bno (lookI a0 (Member.parent y1)) fun y5 =>
 inlO (some (decide (¬ (Member.formula y5)=(⟨#[]⟩:ByteArray)))))
 (inlO (some false))) fun x6 =>
 br x6
 (some (Err.no (6:Int)))
 (jn (σ:=Bool) (α:=Err) (br (decide ((Member.sign y1) < (-1:Int)))
 (inlO (some true))
 (inlO (some (decide ((1:Int) < (Member.sign y1)))))) fun x7 =>
 br x7
 (some (Err.no (1:Int)))
 (br (decide ((100:Int) < ((ByteArray.size (Member.formula y1):Nat):Int)))
 (some (Err.no (4:Int)))
 (some Err.nil))))))
theorem s42 (F37:(List Member)→ByteArray→(Option Int)) (F41:ByteArray→(Option Err)) (a0:(List Member)) (a1:Int):tf42.run [⟨37,[(.sl .member),.str],.int,fun x=>F37 x.1 x.2,false,[]⟩,
 ⟨41,[.str],.err,fun x=>F41 x,false,[]⟩] [(.sl .member),.int] .err (a0,a1)=S42 F37 F41 a0 a1:=by kernel_rfl
noncomputable def P42 (a0:(List Member)) (a1:Int):Option Err:=S42 P37 P41 a0 a1
noncomputable def k42:CSpec:=⟨42,[(.sl .member),.int],.err,fun x=>P42 x.1 x.2,false,[]⟩
theorem r42 {S:Seat} (h:Ok1 S 42 tf42) (h37:Rt S k37) (h41:Rt S k41):Rt S k42:=fun x y hy =>
 Ok1.sound h (C:=[k37,k41]) (CSound.cons h37 (CSound.cons h41 CSound.nil)) rfl rfl rfl ((s42 P37 P41 x.1 x.2).trans hy) rfl
def tc15:TCode :=
 .seq (.region [
 oq 1 (.box (.t 0)),
 oq 2 (.mov (.c (.int .i64 0))),
 oq 3 (.mov (.c (.nilIface)))] [] false)
  (.seq (.seq (.region [
 oq 7 (.fa 0 (.t 1)),
 oq 8 (.load none (.t 7)),
 oq 9 (.call false [] 41 [(.t 8)]),
 oq 4 (.mov (.t 9))] [] false)
  (.seq (.region [
 oq 10 (.mov (.t 4)),
 oq 11 (.eqn false true (.t 10))] [] false)
  (.cond (.t 11)
   (.seq (.region [
 oq 12 (.mov (.t 4)),
 oq 2 (.mov (.c (.int .i64 (-1)))),
 oq 3 (.mov (.t 12))] [] false)
    (.ret))
    (.skip))))
  (.seq (.block 0 (.seq (.regionJ ⟨[.slot 13 .bool],[14,15,16,17,18,19,20,21],[],[]⟩ [
 oq 14 (.fa 1 (.t 1)),
 oq 15 (.load none (.t 14)),
 oq 16 (.bin .int .lss (.t 15) (.c (.int .i64 0))),
 oq 17 (.mov (.t 16)),
  ⟨some 18,.fa 1 (.t 1),(some (17,false)),[]⟩,
  ⟨some 19,.load none (.t 18),(some (17,false)),[]⟩,
  ⟨some 20,.bin .int .gtr (.t 19) (.c (.int .i64 9)),(some (17,false)),[]⟩,
 oq 21 (.pick (.t 17) (.c (.bool true)) (.t 20)),
 oq 13 (.mov (.t 21))] [] false)
    (.cond (.t 13)
     (.seq (.region [
 oq 22 (.ifc 1 (.c (.int .i64 1))),
 oq 2 (.mov (.c (.int .i64 (-1)))),
 oq 3 (.mov (.t 22))] [] false)
      (.ret))
      (.seq (.region [
 oq 24 (.fa 2 (.t 1)),
 oq 25 (.load none (.t 24)),
 oq 26 (.len false (.t 25)),
 oq 27 (.bin .int .gtr (.t 26) (.c (.int .i64 12))),
 oq 23 (.mov (.t 27))] [] false)
   (.cond (.t 23)
    (.seq (.region [
 oq 28 (.ifc 1 (.c (.int .i64 4))),
 oq 2 (.mov (.c (.int .i64 (-1)))),
 oq 3 (.mov (.t 28))] [] false)
   (.ret))
   (.seq (.region [
 oq 30 (.fa 2 (.t 1)),
 oq 31 (.load none (.t 30)),
 oq 32 (.len false (.t 31)),
 oq 33 (.bin .int .eql (.t 32) (.c (.int .i64 0))),
 oq 29 (.mov (.t 33))] [] false)
   (.cond (.t 29)
    (.seq (.region [
 oq 34 (.ifc 1 (.c (.int .i64 5))),
 oq 2 (.mov (.c (.int .i64 (-1)))),
 oq 3 (.mov (.t 34))] [] false)
   (.ret))
   (.skip))))))))
  (.seq (.seq (.region [
 oq 35 (.fa 2 (.t 1)),
 oq 36 (.load none (.t 35)),
 oq 37 (.len false (.t 36)),
 oq 38 (.mov (.c (.int .i64 0)))] [] false)
  (.loop ⟨[.slot 38 .int],[5,6,39,40,41,42,43,44,45,46,49],[],[]⟩ 1 (.seq (.region [
 oq 39 (.bin .int .lss (.t 38) (.t 37))] [] false)
    (.seq (.cond (.t 39)
     (.skip)
     (.exit 1))
    (.seq (.block 2 (.seq (.region [
 oq 40 (.mov (.t 38)),
 oq 5 (.mov (.t 40))] [] false)
      (.seq (.region [
 oq 41 (.fa 2 (.t 1)),
 oq 42 (.load none (.t 41)),
 oq 43 (.mov (.t 5)),
 oq 44 (.call false [] 42 [(.t 42),(.t 43)]),
 oq 6 (.mov (.t 44))] [] false)
      (.seq (.region [
 oq 45 (.mov (.t 6)),
 oq 46 (.eqn false true (.t 45))] [] false)
   (.cond (.t 46)
    (.seq (.region [
 oq 47 (.mov (.t 5)),
 oq 48 (.mov (.t 6)),
 oq 2 (.mov (.t 47)),
 oq 3 (.mov (.t 48))] [] false)
   (.ret))
   (.skip))))))
    (.region [
 oq 49 (.bin .int .add (.t 38) (.c (.int .i64 1))),
 oq 38 (.mov (.t 49))] [] false))))))
  (.seq (.region [
 oq 2 (.mov (.c (.int .i64 (-1)))),
 oq 3 (.mov (.c (.nilIface)))] [] false)
  (.ret)))))
def tf15:TFunc:={ np:=1,nt:=50,res:=[.tmp 2,.tmp 3],own:=false,body:=tc15 }
noncomputable def S15_L1 (F42:(List Member)→Int→(Option Err)) (a0:Dim) (x3:Int):Option (LR Int (Int×Err)) :=
 br (decide (x3 < ((List.length (Dim.members a0):Nat):Int)))
 (bno (F42 (Dim.members a0) x3) fun y4 =>
 br (!(Err.isNil y4))
 (finO (some (x3,y4)))
 (nxO (some (wi (x3+(1:Int))))))
 (dnO (some x3))
noncomputable def S15 (F41:ByteArray→(Option Err)) (F42:(List Member)→Int→(Option Err)) (a0:Dim):Option (Int×Err) :=
 bno (F41 (Dim.name a0)) fun y1 =>
 br (!(Err.isNil y1))
 (some ((-1:Int),y1))
 (jn (σ:=Bool) (α:=(Int×Err)) (br (decide ((Dim.solve a0) < (0:Int)))
 (inlO (some true))
 (inlO (some (decide ((9:Int) < (Dim.solve a0)))))) fun x2 =>
 br x2
 (some ((-1:Int),Err.no (1:Int)))
 (br (decide ((12:Int) < ((List.length (Dim.members a0):Nat):Int)))
 (some ((-1:Int),Err.no (4:Int)))
 (br (decide (((List.length (Dim.members a0):Nat):Int)=(0:Int)))
 (some ((-1:Int),Err.no (5:Int)))
 (lp (S15_L1 F42 a0) (0:Int) fun x5 =>
 some ((-1:Int),Err.nil)))))
theorem s15 (F41:ByteArray→(Option Err)) (F42:(List Member)→Int→(Option Err)) (a0:Dim):tf15.run [⟨41,[.str],.err,fun x=>F41 x,false,[]⟩,
 ⟨42,[(.sl .member),.int],.err,fun x=>F42 x.1 x.2,false,[]⟩] [(.st .dim)] (.tp [.int,.err]) a0=S15 F41 F42 a0:=by kernel_rfl
noncomputable def P15 (a0:Dim):Option (Int×Err):=S15 P41 P42 a0
noncomputable def k15:CSpec:=⟨15,[(.st .dim)],(.tp [.int,.err]),fun x=>P15 x,false,[]⟩
theorem r15 {S:Seat} (h:Ok1 S 15 tf15) (h41:Rt S k41) (h42:Rt S k42):Rt S k15:=fun x y hy =>
 Ok1.sound h (C:=[k41,k42]) (CSound.cons h41 (CSound.cons h42 CSound.nil)) rfl rfl rfl ((s15 P41 P42 x).trans hy) rfl
def tc39:TCode :=
 .seq (.region [
 oq 2 (.box (.t 0)),
 oq 3 (.mov (.c (.bool false)))] [] false)
  (.seq (.region [
 oq 4 (.fa 0 (.t 2)),
 oq 5 (.load none (.t 4)),
 oq 6 (.fa 0 (.t 1)),
 oq 7 (.load none (.t 6)),
 oq 8 (.bin .str .eql (.t 5) (.t 7)),
 oq 3 (.mov (.t 8))] [] false)
  (.ret))
def tf39:TFunc:={ np:=2,nt:=9,res:=[.tmp 3],own:=false,body:=tc39 }
noncomputable def S39 (a0:Dim) (a1:Dim):Option Bool :=
 some (decide ((Dim.name a0)=(Dim.name a1)))
theorem s39 (a0:Dim) (a1:Dim):tf39.run [] [(.st .dim),(.bx .dim)] .bool (a0,a1)=S39 a0 a1:=by kernel_rfl
noncomputable def P39 (a0:Dim) (a1:Dim):Option Bool:=S39 a0 a1
noncomputable def k39:CSpec:=⟨39,[(.st .dim),(.bx .dim)],.bool,fun x=>P39 x.1 x.2,false,[]⟩
theorem r39 {S:Seat} (h:Ok1 S 39 tf39):Rt S k39:=fun x y hy =>
 Ok1.sound h (C:=[]) CSound.nil rfl rfl rfl ((s39 x.1 x.2).trans hy) rfl
def tc65:TCode :=
 .seq (.region [
 oq 4 (.mov (.c (.int .i64 0)))] [] false)
  (.seq (.seq (.region [
 oq 6 (.mov (.t 0)),
 oq 7 (.len false (.t 6)),
 oq 8 (.mov (.c (.int .i64 0)))] [] false)
  (.loop ⟨[.slot 8 .int],[5,9,10,11,12,13,14,15,16,18],[],[]⟩ 0 (.seq (.region [
 oq 9 (.bin .int .lss (.t 8) (.t 7))] [] false)
    (.seq (.cond (.t 9)
     (.skip)
     (.exit 0))
    (.seq (.block 1 (.seq (.region [
 oq 10 (.mov (.t 8)),
 oq 5 (.mov (.t 10))] [] false)
      (.seq (.region [
 oq 11 (.mov (.t 1)),
 oq 12 (.mov (.t 0)),
 oq 13 (.mov (.t 5)),
 oq 14 (.ia 3 (.t 12) (.t 13)),
 oq 15 (.load (some 3) (.t 14)),
 oq 16 (.calld false (.t 11) [(.t 15)])] [] false)
   (.cond (.t 16)
    (.seq (.region [
 oq 17 (.mov (.t 5)),
 oq 4 (.mov (.t 17))] [] false)
   (.ret))
   (.skip)))))
    (.region [
 oq 18 (.bin .int .add (.t 8) (.c (.int .i64 1))),
 oq 8 (.mov (.t 18))] [] false))))))
  (.seq (.region [
 oq 4 (.mov (.c (.int .i64 (-1))))] [] false)
  (.ret)))
def tf65:TFunc:={ np:=2,nt:=19,res:=[.tmp 4],own:=false,body:=tc65 }
noncomputable def S65_39_L1 (F39:Dim→Dim→(Option Bool)) (a0:(List Dim)) (a1:Dim) (x1:Int):Option (LR Int Int) :=
 br (decide (x1 < ((List.length a0:Nat):Int)))
 (bno (lookI a0 x1) fun y2 =>
 bno (F39 y2 a1) fun y3 =>
 br y3
 (finO (some x1))
 (nxO (some (wi (x1+(1:Int))))))
 (dnO (some x1))
noncomputable def S65_39 (F39:Dim→Dim→(Option Bool)) (a0:(List Dim)) (a1:Dim):Option Int :=
 lp (S65_39_L1 F39 a0 a1) (0:Int) fun x4 =>
 some (-1:Int)
theorem s65_39 (F39:Dim→Dim→(Option Bool)) (a0:(List Dim)) (a1:Dim):tf65.run [⟨39,[(.st .dim),(.bx .dim)],.bool,fun x=>F39 x.1 x.2,false,[]⟩] [(.sl .dim),(.fnc 39 [(.bx .dim)])] .int (a0,a1)=S65_39 F39 a0 a1:=by kernel_rfl
noncomputable def P65_39 (a0:(List Dim)) (a1:Dim):Option Int:=S65_39 P39 a0 a1
noncomputable def k65_39:CSpec:=⟨65,[(.sl .dim),(.fnc 39 [(.bx .dim)])],.int,fun x=>P65_39 x.1 x.2,false,[]⟩
theorem r65_39 {S:Seat} (h:Ok1 S 65 tf65) (h39:Rt S k39):Rt S k65_39:=fun x y hy =>
 Ok1.sound h (C:=[k39]) (CSound.cons h39 CSound.nil) rfl rfl rfl ((s65_39 P39 x.1 x.2).trans hy) rfl
def tc38:TCode :=
 .seq (.region [
 oq 4 (.mov (.c (.bool false)))] [] false)
  (.seq (.region [
 oq 5 (.mov (.t 0)),
 oq 6 (.mov (.t 1)),
 oq 7 (.call false [] 65 [(.t 5),(.t 6)]),
 oq 8 (.bin .int .geq (.t 7) (.c (.int .i64 0))),
 oq 4 (.mov (.t 8))] [] false)
  (.ret))
def tf38:TFunc:={ np:=2,nt:=9,res:=[.tmp 4],own:=false,body:=tc38 }
noncomputable def S38_39 (F65_39:(List Dim)→Dim→(Option Int)) (a0:(List Dim)) (a1:Dim):Option Bool :=
 bno (F65_39 a0 a1) fun y1 =>
 some (decide ((0:Int)≤y1))
theorem s38_39 (F65_39:(List Dim)→Dim→(Option Int)) (a0:(List Dim)) (a1:Dim):tf38.run [⟨65,[(.sl .dim),(.fnc 39 [(.bx .dim)])],.int,fun x=>F65_39 x.1 x.2,false,[]⟩] [(.sl .dim),(.fnc 39 [(.bx .dim)])] .bool (a0,a1)=S38_39 F65_39 a0 a1:=by kernel_rfl
noncomputable def P38_39 (a0:(List Dim)) (a1:Dim):Option Bool:=S38_39 P65_39 a0 a1
noncomputable def k38_39:CSpec:=⟨38,[(.sl .dim),(.fnc 39 [(.bx .dim)])],.bool,fun x=>P38_39 x.1 x.2,false,[]⟩
theorem r38_39 {S:Seat} (h:Ok1 S 38 tf38) (h65_39:Rt S k65_39):Rt S k38_39:=fun x y hy =>
 Ok1.sound h (C:=[k65_39]) (CSound.cons h65_39 CSound.nil) rfl rfl rfl ((s38_39 P65_39 x.1 x.2).trans hy) rfl
def tc40:TCode :=
 .seq (.region [
 oq 1 (.box (.t 0)),
 oq 2 (.mov (.c (.int .i64 0)))] [] false)
  (.seq (.region [
 oq 3 (.mov (.c (.int .i64 1)))] [] false)
  (.seq (.seq (.region [
 oq 6 (.fa 0 (.t 1)),
 oq 7 (.load none (.t 6)),
 oq 8 (.len false (.t 7)),
 oq 9 (.mov (.c (.int .i64 0)))] [] false)
  (.loop ⟨[.slot 3 .int,.slot 9 .int],[5,10,11,12,13,14,15,16,17,18],[5],[]⟩ 0 (.seq (.region [
 oq 10 (.bin .int .lss (.t 9) (.t 8))] [] false)
    (.seq (.cond (.t 10)
     (.skip)
     (.exit 0))
    (.seq (.block 1 (.seq (.region [
 oq 11 (.ia 3 (.t 7) (.t 9)),
 oq 12 (.load (some 3) (.t 11)),
 oq 5 (.alloc [.string ⟨#[]⟩,.int .i64 0,.slice none 0 0]),
  ⟨none,.store 3 (.t 5) (.t 12),none,[]⟩] [] false)
    (.region [
 oq 13 (.mov (.t 3)),
 oq 14 (.fa 2 (.t 5)),
 oq 15 (.load none (.t 14)),
 oq 16 (.len false (.t 15)),
 oq 17 (.bin .int .mul (.t 13) (.t 16)),
 oq 3 (.mov (.t 17))] [] false)))
    (.region [
 oq 18 (.bin .int .add (.t 9) (.c (.int .i64 1))),
 oq 9 (.mov (.t 18))] [] false))))))
  (.seq (.region [
 oq 19 (.mov (.t 3)),
 oq 2 (.mov (.t 19))] [] false)
  (.ret))))
def tf40:TFunc:={ np:=1,nt:=20,res:=[.tmp 2],own:=false,body:=tc40 }
noncomputable def S40_L1 (a0:(List Dim)) (x1:(Int×Int)):Option (LR (Int×Int) Int) :=
 br (decide (x1.2 < ((List.length a0:Nat):Int)))
 (bno (lookI a0 x1.2) fun y2 =>
 nxO (some (wi (x1.1 * ((List.length (Dim.members y2):Nat):Int)),wi (x1.2+(1:Int)))))
 (dnO (some (x1.1,x1.2)))
noncomputable def S40 (a0:(List Dim)):Option Int :=
 lp (S40_L1 a0) ((1:Int),(0:Int)) fun x3 =>
 some x3.1
theorem s40 (a0:(List Dim)):tf40.run [] [(.st .outl)] .int a0=S40 a0:=by kernel_rfl
noncomputable def P40 (a0:(List Dim)):Option Int:=S40 a0
noncomputable def k40:CSpec:=⟨40,[(.st .outl)],.int,fun x=>P40 x,false,[]⟩
theorem r40 {S:Seat} (h:Ok1 S 40 tf40):Rt S k40:=fun x y hy =>
 Ok1.sound h (C:=[]) CSound.nil rfl rfl rfl ((s40 x).trans hy) rfl
def tc14:TCode :=
 .seq (.region [
 oq 1 (.box (.t 0)),
 oq 2 (.mov (.c (.int .i64 0))),
 oq 3 (.mov (.c (.int .i64 0))),
 oq 4 (.mov (.c (.nilIface)))] [] false)
  (.seq (.block 0 (.seq (.region [
 oq 10 (.fa 0 (.t 1)),
 oq 11 (.load none (.t 10)),
 oq 12 (.len false (.t 11)),
 oq 13 (.bin .int .gtr (.t 12) (.c (.int .i64 4))),
 oq 9 (.mov (.t 13))] [] false)
    (.cond (.t 9)
     (.seq (.region [
 oq 14 (.ifc 1 (.c (.int .i64 4))),
 oq 2 (.mov (.c (.int .i64 (-1)))),
 oq 3 (.mov (.c (.int .i64 (-1)))),
 oq 4 (.mov (.t 14))] [] false)
      (.ret))
      (.seq (.region [
 oq 16 (.fa 0 (.t 1)),
 oq 17 (.load none (.t 16)),
 oq 18 (.len false (.t 17)),
 oq 19 (.bin .int .eql (.t 18) (.c (.int .i64 0))),
 oq 15 (.mov (.t 19))] [] false)
   (.cond (.t 15)
    (.seq (.region [
 oq 20 (.ifc 1 (.c (.int .i64 5))),
 oq 2 (.mov (.c (.int .i64 (-1)))),
 oq 3 (.mov (.c (.int .i64 (-1)))),
 oq 4 (.mov (.t 20))] [] false)
   (.ret))
   (.skip))))))
  (.seq (.seq (.region [
 oq 21 (.fa 0 (.t 1)),
 oq 22 (.load none (.t 21)),
 oq 23 (.len false (.t 22)),
 oq 24 (.mov (.c (.int .i64 0)))] [] false)
  (.loop ⟨[.slot 24 .int],[5,6,7,8,25,26,27,28,29,30,31,32,33,34,35,36,37,38,39,40,41,42,43,44,45,46,50],[6],[]⟩ 1 (.seq (.region [
 oq 25 (.bin .int .lss (.t 24) (.t 23))] [] false)
    (.seq (.cond (.t 25)
     (.skip)
     (.exit 1))
    (.seq (.block 2 (.seq (.region [
 oq 26 (.mov (.t 24)),
 oq 27 (.ia 3 (.t 22) (.t 24)),
 oq 28 (.load (some 3) (.t 27)),
 oq 6 (.alloc [.string ⟨#[]⟩,.int .i64 0,.slice none 0 0]),
 oq 5 (.mov (.t 26)),
  ⟨none,.store 3 (.t 6) (.t 28),none,[]⟩] [] false)
    (.seq (.region [
 oq 30 (.load (some 3) (.t 6)),
 oq 31 (.call false [] 15 [(.t 30)]),
 oq 29 (.mov (.t 31)),
 oq 32 (.ext (.t 29) 0),
 oq 33 (.ext (.t 29) 1),
 oq 7 (.mov (.t 32)),
 oq 8 (.mov (.t 33))] [] false)
      (.seq (.seq (.regionJ ⟨[.slot 43 .bool],[34,35,36,37,38,39,40,41,42],[],[]⟩ [
 oq 34 (.mov (.t 8)),
 oq 35 (.eqn false false (.t 34)),
 oq 36 (.mov (.t 35)),
  ⟨some 37,.fa 0 (.t 1),(some (36,true)),[]⟩,
  ⟨some 38,.load none (.t 37),(some (36,true)),[]⟩,
  ⟨some 39,.mov (.t 5),(some (36,true)),[]⟩,
  ⟨some 40,.slc 3 (.t 38) none (some (.t 39)),(some (36,true)),[]⟩,
  ⟨some 41,.mkfn 39 [(.t 6)],(some (36,true)),[]⟩,
  ⟨some 42,.call false [] 38 [(.t 40),(.t 41)],(some (36,true)),[]⟩,
 oq 43 (.pick (.t 36) (.t 42) (.c (.bool false)))] [] false)
   (.condJ ⟨[.slot 8 .err],[44],[],[]⟩ (.t 43)
    (.region [
 oq 44 (.ifc 1 (.c (.int .i64 7))),
 oq 8 (.mov (.t 44))] [] false)
   (.skip)))
      (.seq (.region [
 oq 45 (.mov (.t 8)),
 oq 46 (.eqn false true (.t 45))] [] false)
   (.cond (.t 46)
    (.seq (.region [
 oq 47 (.mov (.t 5)),
 oq 48 (.mov (.t 7)),
 oq 49 (.mov (.t 8)),
 oq 2 (.mov (.t 47)),
 oq 3 (.mov (.t 48)),
 oq 4 (.mov (.t 49))] [] false)
   (.ret))
   (.skip)))))))
    (.region [
 oq 50 (.bin .int .add (.t 24) (.c (.int .i64 1))),
 oq 24 (.mov (.t 50))] [] false))))))
  (.seq (.seq (.region [
 oq 51 (.load (some 1) (.t 1)),
 oq 52 (.call false [] 40 [(.t 51)]),
 oq 53 (.bin .int .gtr (.t 52) (.c (.int .i64 3000)))] [] false)
  (.cond (.t 53)
   (.seq (.region [
 oq 54 (.ifc 1 (.c (.int .i64 4))),
 oq 2 (.mov (.c (.int .i64 (-1)))),
 oq 3 (.mov (.c (.int .i64 (-1)))),
 oq 4 (.mov (.t 54))] [] false)
    (.ret))
    (.skip)))
  (.seq (.region [
 oq 2 (.mov (.c (.int .i64 (-1)))),
 oq 3 (.mov (.c (.int .i64 (-1)))),
 oq 4 (.mov (.c (.nilIface)))] [] false)
  (.ret)))))
def tf14:TFunc:={ np:=1,nt:=55,res:=[.tmp 2,.tmp 3,.tmp 4],own:=false,body:=tc14 }
noncomputable def S14_L1 (F15:Dim→(Option (Int×Err))) (F38_39:(List Dim)→Dim→(Option Bool)) (a0:(List Dim)) (x1:Int):Option (LR Int (Int×Int×Err)) :=
 br (decide (x1 < ((List.length a0:Nat):Int)))
 (bno (lookI a0 x1) fun y2 =>
 bno (F15 y2) fun y3 =>
 jn (σ:=Bool) (α:=(LR Int (Int×Int×Err))) (br (Err.isNil y3.2)
 (ck (decide (0≤(0:Int)∧(0:Int)≤x1∧x1≤((List.length a0:Nat):Int))) <|
 bno (F38_39 (List.take (Int.toNat x1 - Int.toNat (0:Int)) (List.drop (Int.toNat (0:Int)) a0)) y2) fun y4 =>
 inlO (some y4))
 (inlO (some false))) fun x5 =>
 jn (σ:=Err) (α:=(LR Int (Int×Int×Err))) (br x5
 (inlO (some (Err.no (7:Int))))
 (inlO (some y3.2))) fun x6 =>
 br (!(Err.isNil x6))
 (finO (some (x1,y3.1,x6)))
 (nxO (some (wi (x1+(1:Int))))))
 (dnO (some x1))
noncomputable def S14 (F15:Dim→(Option (Int×Err))) (F38_39:(List Dim)→Dim→(Option Bool)) (F40:(List Dim)→(Option Int)) (a0:(List Dim)):Option (Int×Int×Err) :=
 br (decide ((4:Int) < ((List.length a0:Nat):Int)))
 (some ((-1:Int),(-1:Int),Err.no (4:Int)))
 (br (decide (((List.length a0:Nat):Int)=(0:Int)))
 (some ((-1:Int),(-1:Int),Err.no (5:Int)))
 (lp (S14_L1 F15 F38_39 a0) (0:Int) fun x7 =>
 bno (F40 a0) fun y8 =>
 br (decide ((3000:Int) < y8))
 (some ((-1:Int),(-1:Int),Err.no (4:Int)))
 (some ((-1:Int),(-1:Int),Err.nil))))
theorem s14 (F15:Dim→(Option (Int×Err))) (F38_39:(List Dim)→Dim→(Option Bool)) (F40:(List Dim)→(Option Int)) (a0:(List Dim)):tf14.run [⟨15,[(.st .dim)],(.tp [.int,.err]),fun x=>F15 x,false,[]⟩,
 ⟨38,[(.sl .dim),(.fnc 39 [(.bx .dim)])],.bool,fun x=>F38_39 x.1 x.2,false,[]⟩,
 ⟨40,[(.st .outl)],.int,fun x=>F40 x,false,[]⟩] [(.st .outl)] (.tp [.int,.int,.err]) a0=S14 F15 F38_39 F40 a0:=by kernel_rfl
noncomputable def P14 (a0:(List Dim)):Option (Int×Int×Err):=S14 P15 P38_39 P40 a0
noncomputable def k14:CSpec:=⟨14,[(.st .outl)],(.tp [.int,.int,.err]),fun x=>P14 x,false,[]⟩
theorem r14 {S:Seat} (h:Ok1 S 14 tf14) (h15:Rt S k15) (h38_39:Rt S k38_39) (h40:Rt S k40):Rt S k14:=fun x y hy =>
 Ok1.sound h (C:=[k15,k38_39,k40]) (CSound.cons h15 (CSound.cons h38_39 (CSound.cons h40 CSound.nil))) rfl rfl rfl ((s14 P15 P38_39 P40 x).trans hy) rfl
def tc51:TCode :=
 .seq (.region [
 oq 1 (.box (.t 0)),
 oq 2 (.mov (.c (.nilIface)))] [] false)
  (.seq (.region [
 oq 7 (.load (some 1) (.t 1)),
 oq 8 (.call false [] 14 [(.t 7)]),
 oq 6 (.mov (.t 8)),
 oq 9 (.ext (.t 6) 0),
 oq 10 (.ext (.t 6) 1),
 oq 11 (.ext (.t 6) 2),
 oq 3 (.mov (.t 9)),
 oq 4 (.mov (.t 10)),
 oq 5 (.mov (.t 11))] [] false)
  (.seq (.region [
 oq 12 (.mov (.t 5)),
 oq 2 (.mov (.t 12))] [] false)
  (.ret)))
def tf51:TFunc:={ np:=1,nt:=13,res:=[.tmp 2],own:=false,body:=tc51 }
noncomputable def S51 (F14:(List Dim)→(Option (Int×Int×Err))) (a0:(List Dim)):Option Err :=
 bno (F14 a0) fun y1 =>
 some y1.2.2
theorem s51 (F14:(List Dim)→(Option (Int×Int×Err))) (a0:(List Dim)):tf51.run [⟨14,[(.st .outl)],(.tp [.int,.int,.err]),fun x=>F14 x,false,[]⟩] [(.st .outl)] .err a0=S51 F14 a0:=by kernel_rfl
noncomputable def P51 (a0:(List Dim)):Option Err:=S51 P14 a0
noncomputable def k51:CSpec:=⟨51,[(.st .outl)],.err,fun x=>P51 x,false,[]⟩
theorem r51 {S:Seat} (h:Ok1 S 51 tf51) (h14:Rt S k14):Rt S k51:=fun x y hy =>
 Ok1.sound h (C:=[k14]) (CSound.cons h14 CSound.nil) rfl rfl rfl ((s51 P14 x).trans hy) rfl
end Ab
end
section
namespace Ab
open Go
set_option linter.unusedVariables false
set_option maxRecDepth 100000
def tc47:TCode :=
 .seq (.region [
 oq 2 (.box (.t 0)),
 oq 4 (.mov (.c (.slice none 0 0)))] [] false)
  (.seq (.seq (.region [
 oq 7 (.fa 2 (.t 2)),
 oq 8 (.load none (.t 7)),
 oq 9 (.len false (.t 8)),
 oq 10 (.mov (.c (.int .i64 0)))] [] false)
  (.loop ⟨[.row 4 22 .int,.slot 10 .int],[5,6,11,12,13,14,15,16,17,18,19,20,21,22,23],[6,21],[]⟩ 0 (.seq (.region [
 oq 11 (.bin .int .lss (.t 10) (.t 9))] [] false)
    (.seq (.cond (.t 11)
     (.skip)
     (.exit 0))
    (.seq (.block 1 (.seq (.region [
 oq 12 (.mov (.t 10)),
 oq 13 (.ia 4 (.t 8) (.t 10)),
 oq 14 (.load (some 4) (.t 13)),
 oq 6 (.alloc [.string ⟨#[]⟩,.int .i64 0,.int .i64 0,.string ⟨#[]⟩]),
 oq 5 (.mov (.t 12)),
  ⟨none,.store 4 (.t 6) (.t 14),none,[]⟩] [] false)
    (.seq (.region [
 oq 15 (.fa 1 (.t 6)),
 oq 16 (.load none (.t 15)),
 oq 17 (.mov (.t 1)),
 oq 18 (.bin .int .eql (.t 16) (.t 17))] [] false)
   (.condJ ⟨[.row 4 22 .int],[19,20,21,22],[21],[]⟩ (.t 18)
    (.region [
 oq 19 (.mov (.t 4)),
 oq 20 (.mov (.t 5)),
 oq 21 (.bslice false 1 [.int .i64 0] 1 [(0,(.t 20))]),
 oq 22 (.app 1 (.t 19) (.t 21)),
 oq 4 (.mov (.t 22))] [] false)
   (.skip)))))
    (.region [
 oq 23 (.bin .int .add (.t 10) (.c (.int .i64 1))),
 oq 10 (.mov (.t 23))] [] false))))))
  (.seq (.region [
 oq 24 (.mov (.t 4)),
 oq 4 (.mov (.t 24))] [] false)
  (.ret)))
def tf47:TFunc:={ np:=2,nt:=25,res:=[.tmp 4],own:=false,body:=tc47 }
noncomputable def S47_L1 (a0:Dim) (a1:Int) (x1:((List Int)×Int)):Option (LR ((List Int)×Int) (List Int)) :=
 br (decide (x1.2 < ((List.length (Dim.members a0):Nat):Int)))
 (bno (lookI (Dim.members a0) x1.2) fun y2 =>
 jn (σ:=(List Int)) (α:=(LR ((List Int)×Int) (List Int))) (br (decide ((Member.parent y2)=a1))
 (ck (decide (List.length x1.1+List.length ([x1.2]:List Int)≤roomA)) <|
 inlO (some (x1.1++([x1.2]:List Int))))
 (inlO (some x1.1))) fun x3 =>
 nxO (some (x3,wi (x1.2+(1:Int)))))
 (dnO (some (x1.1,x1.2)))
noncomputable def S47 (a0:Dim) (a1:Int):Option (List Int) :=
 lp (S47_L1 a0 a1) (([]:List Int),(0:Int)) fun x4 =>
 some x4.1
theorem s47 (a0:Dim) (a1:Int):tf47.run [] [(.st .dim),.int] (.sl .int) (a0,a1)=S47 a0 a1:=by kernel_rfl
noncomputable def P47 (a0:Dim) (a1:Int):Option (List Int):=S47 a0 a1
noncomputable def k47:CSpec:=⟨47,[(.st .dim),.int],(.sl .int),fun x=>P47 x.1 x.2,false,[]⟩
theorem r47 {S:Seat} (h:Ok1 S 47 tf47):Rt S k47:=fun x y hy =>
 Ok1.sound h (C:=[]) CSound.nil rfl rfl rfl ((s47 x.1 x.2).trans hy) rfl
def tc44:TCode :=
 .seq (.region [
 oq 2 (.box (.t 0)),
 oq 4 (.mov (.c (.bool false)))] [] false)
  (.seq (.regionJ ⟨[.slot 4 .bool],[5,6,7,8,9,10,11,12,13,14,15,16,17,18],[],[]⟩ [
 oq 5 (.fa 2 (.t 2)),
 oq 6 (.load none (.t 5)),
 oq 7 (.mov (.t 1)),
 oq 8 (.ia 4 (.t 6) (.t 7)),
 oq 9 (.fa 3 (.t 8)),
 oq 10 (.load none (.t 9)),
 oq 11 (.bin .str .eql (.t 10) (.c (.string ⟨#[]⟩))),
 oq 12 (.mov (.t 11)),
  ⟨some 13,.load (some 3) (.t 2),(some (12,true)),[]⟩,
  ⟨some 14,.mov (.t 1),(some (12,true)),[]⟩,
  ⟨some 15,.call true [] 47 [(.t 13),(.t 14)],(some (12,true)),[]⟩,
  ⟨some 16,.len false (.t 15),(some (12,true)),[]⟩,
  ⟨some 17,.bin .int .eql (.t 16) (.c (.int .i64 0)),(some (12,true)),[]⟩,
 oq 18 (.pick (.t 12) (.t 17) (.c (.bool false))),
 oq 4 (.mov (.t 18))] [] false)
  (.ret))
def tf44:TFunc:={ np:=2,nt:=19,res:=[.tmp 4],own:=false,body:=tc44 }
noncomputable def S44 (F47:Dim→Int→(Option (List Int))) (a0:Dim) (a1:Int):Option Bool :=
 jn (σ:=Bool) (α:=Bool) (bno (lookI (Dim.members a0) a1) fun y1 =>
 br (decide ((Member.formula y1)=(⟨#[]⟩:ByteArray)))
 (bno (F47 a0 a1) fun y2 =>
 inlO (some (decide (((List.length y2:Nat):Int)=(0:Int)))))
 (inlO (some false))) fun x3 =>
 some x3
theorem s44 (F47:Dim→Int→(Option (List Int))) (a0:Dim) (a1:Int):tf44.run [⟨47,[(.st .dim),.int],(.sl .int),fun x=>F47 x.1 x.2,false,[]⟩] [(.st .dim),.int] .bool (a0,a1)=S44 F47 a0 a1:=by kernel_rfl
noncomputable def P44 (a0:Dim) (a1:Int):Option Bool:=S44 P47 a0 a1
noncomputable def k44:CSpec:=⟨44,[(.st .dim),.int],.bool,fun x=>P44 x.1 x.2,false,[]⟩
theorem r44 {S:Seat} (h:Ok1 S 44 tf44) (h47:Rt S k47):Rt S k44:=fun x y hy =>
 Ok1.sound h (C:=[k47]) (CSound.cons h47 CSound.nil) rfl rfl rfl ((s44 P47 x.1 x.2).trans hy) rfl
end Ab
end
