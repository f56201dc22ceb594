/-
  grid.Lines where no number is to be written.
-/
import Derived.Test.YtkaifdgeigdbhaaGreatDoorW372
set_option linter.unusedVariables false
noncomputable section
namespace Ab
open Go
def k157z:CSpec:=⟨157,[.int],.str,fun _=>none,false,[]⟩
def zga (c:Cell):Option (ByteArray×Err):=S139 (fun _=>none) P52 c
def k139z:CSpec:=⟨139,[(.st .cell)],(.tp [.str,.err]),fun x=>zga x,false,[]⟩
theorem r139z {S:Seat} (h:Ok1 S 139 tf139) (h52:Rt S k52):Rt S k139z:=fun x y hy =>
 Ok1.sound h (C:=[k157z,k52]) (.cons (fun _ _ h=>by cases h) (.cons h52 .nil)) rfl rfl rfl ((s139 (fun _=>none) P52 x).trans hy) rfl
def P381z (a0:(List Dim)) (a1:Grid) (a2:Int) (a3:Int):Option ((List ByteArray)×Err):=S381 zga P154 P378 P391 P51 a0 a1 a2 a3
def k381z:CSpec:=⟨381,[(.st .outl),(.st .grid),.int,.int],(.tp [(.sl .str),.err]),fun x=>P381z x.1 x.2.1 x.2.2.1 x.2.2.2,false,[]⟩
theorem r381z {S:Seat} (h:Ok1 S 381 tf381) (h139:Rt S k139z) (h154:Rt S k154) (h378:Rt S k378) (h391:Rt S k391) (h51:Rt S k51):Rt S k381z:=fun x y hy =>
 Ok1.sound h (C:=[k139z,k154,k378,k391,k51]) (.cons h139 (.cons h154 (.cons h378 (.cons h391 (.cons h51 .nil))))) rfl rfl rfl ((s381 zga P154 P378 P391 P51 x.1 x.2.1 x.2.2.1 x.2.2.2).trans hy) rfl
def P372z (a0:Int):Option Bool:=S372 P22 P377 P381z a0
def k372z:CSpec:=⟨372,[.int],.bool,fun x=>P372z x,false,[]⟩
theorem r372z {S:Seat} (h:Ok1 S 372 tf372) (h22:Rt S k22) (h377:Rt S k377) (h381:Rt S k381z):Rt S k372z:=fun x y hy =>
 Ok1.sound h (C:=[k22,k377,k381z]) (.cons h22 (.cons h377 (.cons h381 .nil))) rfl rfl rfl ((s372 P22 P377 P381z x).trans hy) rfl
end Ab
