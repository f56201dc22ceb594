/-
  Functions of the program as typed code, what they come to, and their contracts: written by program (mk.py).
-/
import Derived.Test.YtchidgkpkhloeaaGreatDoorB2
import Derived.KernelRfl
import Derived.Test.YtchidgkpkhloeaaGreatDoorHB
import Derived.Test.YtchidgkpkhloeaaGreatDoorHF
import Derived.Test.YtchidgkpkhloeaaGreatDoorH7
namespace Ab
open Go
set_option linter.unusedVariables false
set_option maxRecDepth 100000
def tc308:TCode :=
 .seq (.region [
 oq 10 (.mov (.c (.bool false)))] [] false)
  (.seq (.seq (.regionJ ⟨[.slot 48 .bool],[19,20,21,22,23,24,25,26,27,28,29,30,31,32,33,34,35,36,37,38,39,40,41,42,43,44,45,46,47],[],[]⟩ [
 oq 19 (.mov (.t 0)),
 oq 20 (.bin .int .lss (.t 19) (.c (.int .i64 0))),
 oq 21 (.mov (.t 20)),
  ⟨some 22,.mov (.t 0),(some (21,false)),[]⟩,
  ⟨some 23,.bin .int .gtr (.t 22) (.c (.int .i64 1000)),(some (21,false)),[]⟩,
 oq 24 (.pick (.t 21) (.c (.bool true)) (.t 23)),
 oq 25 (.mov (.t 24)),
  ⟨some 26,.mov (.t 1),(some (25,false)),[]⟩,
  ⟨some 27,.bin .int .lss (.t 26) (.c (.int .i64 1)),(some (25,false)),[]⟩,
 oq 28 (.pick (.t 25) (.c (.bool true)) (.t 27)),
 oq 29 (.mov (.t 28)),
  ⟨some 30,.mov (.t 1),(some (29,false)),[]⟩,
  ⟨some 31,.bin .int .gtr (.t 30) (.c (.int .i64 1000)),(some (29,false)),[]⟩,
 oq 32 (.pick (.t 29) (.c (.bool true)) (.t 31)),
 oq 33 (.mov (.t 32)),
  ⟨some 34,.mov (.t 2),(some (33,false)),[]⟩,
  ⟨some 35,.bin .int .lss (.t 34) (.c (.int .i64 0)),(some (33,false)),[]⟩,
 oq 36 (.pick (.t 33) (.c (.bool true)) (.t 35)),
 oq 37 (.mov (.t 36)),
  ⟨some 38,.mov (.t 2),(some (37,false)),[]⟩,
  ⟨some 39,.bin .int .gtr (.t 38) (.c (.int .i64 1000)),(some (37,false)),[]⟩,
 oq 40 (.pick (.t 37) (.c (.bool true)) (.t 39)),
 oq 41 (.mov (.t 40)),
  ⟨some 42,.mov (.t 3),(some (41,false)),[]⟩,
  ⟨some 43,.bin .int .lss (.t 42) (.c (.int .i64 1)),(some (41,false)),[]⟩,
 oq 44 (.pick (.t 41) (.c (.bool true)) (.t 43)),
 oq 45 (.mov (.t 44)),
  ⟨some 46,.mov (.t 3),(some (45,false)),[]⟩,
  ⟨some 47,.bin .int .gtr (.t 46) (.c (.int .i64 1000)),(some (45,false)),[]⟩,
 oq 48 (.pick (.t 45) (.c (.bool true)) (.t 47))] [] false)
  (.cond (.t 48)
   (.seq (.region [
 oq 10 (.mov (.c (.bool true)))] [] false)
    (.ret))
    (.skip)))
  (.seq (.region [
 oq 49 (.build [.string ⟨#[]⟩,.int .i64 0,.int .i64 0,.string ⟨#[]⟩] [(0,1,(.c (.string ⟨#[114,97,116,105,111]⟩))),(1,1,(.c (.int .i64 (-1)))),(3,1,(.c (.string ⟨#[112,47,113]⟩)))]),
 oq 50 (.build [.string ⟨#[]⟩,.int .i64 0,.int .i64 0,.string ⟨#[]⟩] [(0,1,(.c (.string ⟨#[112]⟩))),(1,1,(.c (.int .i64 (-1))))]),
 oq 51 (.build [.string ⟨#[]⟩,.int .i64 0,.int .i64 0,.string ⟨#[]⟩] [(0,1,(.c (.string ⟨#[113]⟩))),(1,1,(.c (.int .i64 (-1))))]),
 oq 52 (.bslice false 4 [.string ⟨#[]⟩,.int .i64 0,.int .i64 0,.string ⟨#[]⟩] 3 [(0,(.t 49)),(1,(.t 50)),(2,(.t 51))]),
 oq 53 (.build [.string ⟨#[]⟩,.int .i64 0,.slice none 0 0] [(0,1,(.c (.string ⟨#[109]⟩))),(2,1,(.t 52))]),
 oq 11 (.alloc [.string ⟨#[]⟩,.int .i64 0,.slice none 0 0]),
  ⟨none,.store 3 (.t 11) (.t 53),none,[]⟩] [.int,.int,.int,.member] false)
  (.seq (.region [
 oq 54 (.build [.string ⟨#[]⟩,.int .i64 0,.int .i64 0,.string ⟨#[]⟩] [(0,1,(.c (.string ⟨#[97,108,108]⟩))),(1,1,(.c (.int .i64 (-1))))]),
 oq 55 (.build [.string ⟨#[]⟩,.int .i64 0,.int .i64 0,.string ⟨#[]⟩] [(0,1,(.c (.string ⟨#[117]⟩))),(1,1,(.c (.int .i64 0))),(2,1,(.c (.int .i64 1)))]),
 oq 56 (.build [.string ⟨#[]⟩,.int .i64 0,.int .i64 0,.string ⟨#[]⟩] [(0,1,(.c (.string ⟨#[118]⟩))),(1,1,(.c (.int .i64 0))),(2,1,(.c (.int .i64 1)))]),
 oq 57 (.bslice false 4 [.string ⟨#[]⟩,.int .i64 0,.int .i64 0,.string ⟨#[]⟩] 3 [(0,(.t 54)),(1,(.t 55)),(2,(.t 56))]),
 oq 58 (.build [.string ⟨#[]⟩,.int .i64 0,.slice none 0 0] [(0,1,(.c (.string ⟨#[116]⟩))),(1,1,(.c (.int .i64 5))),(2,1,(.t 57))]),
 oq 12 (.alloc [.string ⟨#[]⟩,.int .i64 0,.slice none 0 0]),
  ⟨none,.store 3 (.t 12) (.t 58),none,[]⟩] [.int,.int,.int,.member] false)
  (.seq (.seq (.region [
 oq 59 (.mov (.t 4))] [] false)
  (.condJ ⟨[.var 11 [.sh .str,.sh .int,.row 52 .member]],[60],[],[]⟩ (.t 59)
   (.region [
 oq 60 (.fa 1 (.t 11)),
  ⟨none,.store 1 (.t 60) (.c (.int .i64 9)),none,[]⟩] [] false)
   (.skip)))
  (.seq (.region [
 oq 61 (.load (some 3) (.t 11)),
 oq 62 (.load (some 3) (.t 12)),
 oq 63 (.bslice true 3 [.string ⟨#[]⟩,.int .i64 0,.slice none 0 0] 2 [(0,(.t 61)),(1,(.t 62))]),
 oq 64 (.build [.slice none 0 0] [(0,1,(.t 63))]),
 oq 13 (.alloc [.slice none 0 0]),
  ⟨none,.store 1 (.t 13) (.t 64),none,[]⟩] [.int,.int,.dim] false)
  (.seq (.region [
 oq 65 (.bslice false 1 [.int .i64 0] 2 [(0,(.c (.int .i64 1))),(1,(.c (.int .i64 1)))]),
 oq 66 (.mov (.t 0)),
 oq 67 (.build [.slice none 0 0,.int .i64 0] [(0,1,(.t 65)),(1,1,(.t 66))]),
 oq 68 (.bslice false 1 [.int .i64 0] 2 [(0,(.c (.int .i64 1))),(1,(.c (.int .i64 2)))]),
 oq 69 (.mov (.t 2)),
 oq 70 (.build [.slice none 0 0,.int .i64 0] [(0,1,(.t 68)),(1,1,(.t 69))]),
 oq 71 (.bslice false 1 [.int .i64 0] 2 [(0,(.c (.int .i64 2))),(1,(.c (.int .i64 1)))]),
 oq 72 (.mov (.t 1)),
 oq 73 (.build [.slice none 0 0,.int .i64 0] [(0,1,(.t 71)),(1,1,(.t 72))]),
 oq 74 (.bslice false 1 [.int .i64 0] 2 [(0,(.c (.int .i64 2))),(1,(.c (.int .i64 2)))]),
 oq 75 (.mov (.t 3)),
 oq 76 (.build [.slice none 0 0,.int .i64 0] [(0,1,(.t 74)),(1,1,(.t 75))]),
 oq 77 (.bslice true 2 [.slice none 0 0,.int .i64 0] 4 [(0,(.t 67)),(1,(.t 70)),(2,(.t 73)),(3,(.t 76))]),
 oq 14 (.mov (.t 77))] [.int,.int,.int,.int,.int,.int,.int,.int,.int,.int,.int,.int,.entry] false)
  (.seq (.region [
 oq 79 (.load (some 1) (.t 13)),
 oq 80 (.mov (.t 14)),
 oq 81 (.bslice false 1 [.int .i64 0] 2 [(0,(.c (.int .i64 0))),(1,(.c (.int .i64 0)))]),
 oq 82 (.call false [] 330 [(.t 79),(.t 80),(.t 81)]),
 oq 78 (.mov (.t 82)),
 oq 83 (.ext (.t 78) 0),
 oq 84 (.ext (.t 78) 1),
 oq 15 (.alloc [.int .i64 0,.int .i64 0]),
  ⟨none,.store 2 (.t 15) (.t 83),none,[]⟩,
 oq 16 (.mov (.t 84))] [] false)
  (.seq (.region [
 oq 86 (.load (some 1) (.t 13)),
 oq 87 (.bslice false 1 [.int .i64 0] 2 [(0,(.c (.int .i64 0))),(1,(.c (.int .i64 0)))]),
 oq 88 (.call false [] 331 [(.t 86),(.t 87)]),
 oq 85 (.mov (.t 88)),
 oq 89 (.ext (.t 85) 0),
 oq 90 (.ext (.t 85) 1),
 oq 17 (.mov (.t 89)),
 oq 18 (.mov (.t 90))] [] false)
  (.seq (.seq (.regionJ ⟨[.slot 96 .bool],[91,92,93,94,95],[],[]⟩ [
 oq 91 (.mov (.t 16)),
 oq 92 (.eqn false true (.t 91)),
 oq 93 (.mov (.t 92)),
  ⟨some 94,.mov (.t 18),(some (93,false)),[]⟩,
  ⟨some 95,.eqn false true (.t 94),(some (93,false)),[]⟩,
 oq 96 (.pick (.t 93) (.c (.bool true)) (.t 95))] [] false)
  (.cond (.t 96)
   (.seq (.region [
 oq 10 (.mov (.c (.bool false)))] [] false)
    (.ret))
    (.skip)))
  (.seq (.seq (.region [
 oq 97 (.mov (.t 4))] [] false)
  (.cond (.t 97)
   (.seq (.regionJ ⟨[.slot 10 .bool],[98,99,100,101,102,103,104,105,106,107,108,109,110,111],[],[]⟩ [
 oq 98 (.mov (.t 17)),
  ⟨some 99,.bin .int .eql (.t 98) (.c (.int .i64 0)),none,[0]⟩,
  ⟨some 100,.mov (.t 99),none,[1]⟩,
  ⟨some 101,.load (some 2) (.t 15),(some (100,true)),[2]⟩,
  ⟨some 102,.mov (.t 0),(some (100,true)),[2]⟩,
  ⟨some 103,.mov (.t 2),(some (100,true)),[2]⟩,
  ⟨some 104,.bin .int .add (.t 102) (.t 103),(some (100,true)),[4,5,2]⟩,
  ⟨some 105,.mov (.t 1),(some (100,true)),[2]⟩,
  ⟨some 106,.mov (.t 3),(some (100,true)),[2]⟩,
  ⟨some 107,.bin .int .add (.t 105) (.t 106),(some (100,true)),[7,8,2]⟩,
  ⟨some 108,.bin .int .quo (.t 104) (.t 107),(some (100,true)),[6,9,2]⟩,
  ⟨some 109,.call false [] 8 [(.t 108)],(some (100,true)),[10,2,2]⟩,
  ⟨some 110,.eqa false [(0,.int),(1,.int)] (.t 101) (.t 109),(some (100,true)),[3,11,2]⟩,
  ⟨some 111,.pick (.t 100) (.t 110) (.c (.bool false)),none,[2,12]⟩,
  ⟨some 10,.mov (.t 111),none,[13,11,0,1,2,3,4,5,6,7,8,9,10,11,12,13]⟩] [] true)
   (.ret))
   (.skip)))
  (.seq (.regionJ ⟨[.slot 10 .bool],[112,113,114,115,116,117,118,119,120,121,122,123,124,125],[],[]⟩ [
 oq 112 (.mov (.t 17)),
  ⟨some 113,.bin .int .eql (.t 112) (.c (.int .i64 1)),none,[0]⟩,
  ⟨some 114,.mov (.t 113),none,[1]⟩,
  ⟨some 115,.load (some 2) (.t 15),(some (114,true)),[2]⟩,
  ⟨some 116,.mov (.t 0),(some (114,true)),[2]⟩,
  ⟨some 117,.mov (.t 1),(some (114,true)),[2]⟩,
  ⟨some 118,.bin .int .quo (.t 116) (.t 117),(some (114,true)),[4,5,2]⟩,
  ⟨some 119,.mov (.t 2),(some (114,true)),[2]⟩,
  ⟨some 120,.mov (.t 3),(some (114,true)),[2]⟩,
  ⟨some 121,.bin .int .quo (.t 119) (.t 120),(some (114,true)),[7,8,2]⟩,
  ⟨some 122,.bin .int .add (.t 118) (.t 121),(some (114,true)),[6,9,2]⟩,
  ⟨some 123,.call false [] 8 [(.t 122)],(some (114,true)),[10,2,2]⟩,
  ⟨some 124,.eqa false [(0,.int),(1,.int)] (.t 115) (.t 123),(some (114,true)),[3,11,2]⟩,
  ⟨some 125,.pick (.t 114) (.t 124) (.c (.bool false)),none,[2,12]⟩,
  ⟨some 10,.mov (.t 125),none,[13,11,0,1,2,3,4,5,6,7,8,9,10,11,12,13]⟩] [] true)
  (.ret))))))))))))
def tf308:TFunc:={ np:=5,nt:=126,res:=[.tmp 10],own:=false,body:=tc308 }
noncomputable def S308 (F330:(List Dim)→(List Entry)→(List Int)→(Option (Cell×Err))) (F331:(List Dim)→(List Int)→(Option (Int×Err))) (F8:Int→(Option Cell)) (a0:Int) (a1:Int) (a2:Int) (a3:Int) (a4:Bool):Option Bool :=
 jn (σ:=Bool) (α:=Bool) (br (decide (a0 < (0:Int)))
 (inlO (some true))
 (br (decide ((1000:Int) < a0))
 (inlO (some true))
 (br (decide (a1 < (1:Int)))
 (inlO (some true))
 (br (decide ((1000:Int) < a1))
 (inlO (some true))
 (br (decide (a2 < (0:Int)))
 (inlO (some true))
 (br (decide ((1000:Int) < a2))
 (inlO (some true))
 (br (decide (a3 < (1:Int)))
 (inlO (some true))
 (inlO (some (decide ((1000:Int) < a3))))))))))) fun x1 =>
 br x1
 (some true)
 (jn (σ:=(ByteArray×Int×(List Member))) (α:=Bool) (br a4
 (inlO (some ((⟨#[109]⟩:ByteArray),(9:Int),([Member.mk (⟨#[114,97,116,105,111]⟩:ByteArray) (-1:Int) (0:Int) (⟨#[112,47,113]⟩:ByteArray),Member.mk (⟨#[112]⟩:ByteArray) (-1:Int) (0:Int) (⟨#[]⟩:ByteArray),Member.mk (⟨#[113]⟩:ByteArray) (-1:Int) (0:Int) (⟨#[]⟩:ByteArray)]:List Member))))
 (inlO (some ((⟨#[109]⟩:ByteArray),(0:Int),([Member.mk (⟨#[114,97,116,105,111]⟩:ByteArray) (-1:Int) (0:Int) (⟨#[112,47,113]⟩:ByteArray),Member.mk (⟨#[112]⟩:ByteArray) (-1:Int) (0:Int) (⟨#[]⟩:ByteArray),Member.mk (⟨#[113]⟩:ByteArray) (-1:Int) (0:Int) (⟨#[]⟩:ByteArray)]:List Member))))) fun x2 =>
 bno (F330 ([Dim.mk x2.1 x2.2.1 x2.2.2,Dim.mk (⟨#[116]⟩:ByteArray) (5:Int) ([Member.mk (⟨#[97,108,108]⟩:ByteArray) (-1:Int) (0:Int) (⟨#[]⟩:ByteArray),Member.mk (⟨#[117]⟩:ByteArray) (0:Int) (1:Int) (⟨#[]⟩:ByteArray),Member.mk (⟨#[118]⟩:ByteArray) (0:Int) (1:Int) (⟨#[]⟩:ByteArray)]:List Member)]:List Dim) ([Entry.mk ([(1:Int),(1:Int)]:List Int) a0,Entry.mk ([(1:Int),(2:Int)]:List Int) a2,Entry.mk ([(2:Int),(1:Int)]:List Int) a1,Entry.mk ([(2:Int),(2:Int)]:List Int) a3]:List Entry) ([(0:Int),(0:Int)]:List Int)) fun y3 =>
 bno (F331 ([Dim.mk x2.1 x2.2.1 x2.2.2,Dim.mk (⟨#[116]⟩:ByteArray) (5:Int) ([Member.mk (⟨#[97,108,108]⟩:ByteArray) (-1:Int) (0:Int) (⟨#[]⟩:ByteArray),Member.mk (⟨#[117]⟩:ByteArray) (0:Int) (1:Int) (⟨#[]⟩:ByteArray),Member.mk (⟨#[118]⟩:ByteArray) (0:Int) (1:Int) (⟨#[]⟩:ByteArray)]:List Member)]:List Dim) ([(0:Int),(0:Int)]:List Int)) fun y4 =>
 jn (σ:=Bool) (α:=Bool) (br (!(Err.isNil y3.2))
 (inlO (some true))
 (inlO (some (!(Err.isNil y4.2))))) fun x5 =>
 br x5
 (some false)
 (br a4
 (jn (σ:=Bool) (α:=Bool) (br (decide (y4.1=(0:Int)))
 (ck (decide (¬ (wi (a1+a3))=0)) <|
 bno (F8 (wi (Int.tdiv (wi (a0+a2)) (wi (a1+a3))))) fun y6 =>
 inlO (some (decide ((Cell.k y3.1)=(Cell.k y6)) && (decide ((Cell.n y3.1)=(Cell.n y6)) && true))))
 (inlO (some false))) fun x7 =>
 some x7)
 (jn (σ:=Bool) (α:=Bool) (br (decide (y4.1=(1:Int)))
 (ck (decide (¬ a1=0)) <|
 ck (decide (¬ a3=0)) <|
 bno (F8 (wi ((wi (Int.tdiv a0 a1))+(wi (Int.tdiv a2 a3))))) fun y8 =>
 inlO (some (decide ((Cell.k y3.1)=(Cell.k y8)) && (decide ((Cell.n y3.1)=(Cell.n y8)) && true))))
 (inlO (some false))) fun x9 =>
 some x9)))
theorem s308 (F330:(List Dim)→(List Entry)→(List Int)→(Option (Cell×Err))) (F331:(List Dim)→(List Int)→(Option (Int×Err))) (F8:Int→(Option Cell)) (a0:Int) (a1:Int) (a2:Int) (a3:Int) (a4:Bool):tf308.run [⟨330,[(.st .outl),(.sl .entry),(.sl .int)],(.tp [(.st .cell),.err]),fun x=>F330 x.1 x.2.1 x.2.2,false,[]⟩,
 ⟨331,[(.st .outl),(.sl .int)],(.tp [.int,.err]),fun x=>F331 x.1 x.2,false,[]⟩,
 ⟨8,[.int],(.st .cell),fun x=>F8 x,false,[]⟩] [.int,.int,.int,.int,.bool] .bool (a0,a1,a2,a3,a4)=S308 F330 F331 F8 a0 a1 a2 a3 a4:=by kernel_rfl
noncomputable def P308 (a0:Int) (a1:Int) (a2:Int) (a3:Int) (a4:Bool):Option Bool:=S308 P330 P331 P8 a0 a1 a2 a3 a4
noncomputable def k308:CSpec:=⟨308,[.int,.int,.int,.int,.bool],.bool,fun x=>P308 x.1 x.2.1 x.2.2.1 x.2.2.2.1 x.2.2.2.2,false,[]⟩
theorem r308 {S:Seat} (h:Ok1 S 308 tf308) (h330:Rt S k330) (h331:Rt S k331) (h8:Rt S k8):Rt S k308:=fun x y hy =>
 Ok1.sound h (C:=[k330,k331,k8]) (CSound.cons h330 (CSound.cons h331 (CSound.cons h8 CSound.nil))) rfl rfl rfl ((s308 P330 P331 P8 x.1 x.2.1 x.2.2.1 x.2.2.2.1 x.2.2.2.2).trans hy) rfl
end Ab
