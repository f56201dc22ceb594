/-
  Functions of the program as typed code, what they come to, and their contracts: written by program (mk.py).
-/
import Derived.Test.YthjpciiacibnhaaDoorB2
import Derived.KernelRfl
import Derived.Test.YthjpciiacibnhaaDoorMO
import Derived.Test.YthjpciiacibnhaaDoorMP
namespace Ab
open Go
set_option linter.unusedVariables false
set_option maxRecDepth 100000

/- tallyhall/place.Check -/
def tc114 : TCode :=
  .seq (.region [
  ⟨some 2, .box (.t 0), none, []⟩,
  ⟨some 4, .mov (.c (.nilIface)), none, []⟩] [] false)
  (.seq (.seq (.region [
  ⟨some 6, .load (some 1) (.t 2), none, []⟩,
  ⟨some 7, .call false [] 51 [(.t 6)], none, []⟩,
  ⟨some 5, .mov (.t 7), none, []⟩] [] false)
  (.seq (.region [
  ⟨some 8, .mov (.t 5), none, []⟩,
  ⟨some 9, .eqn false true (.t 8), none, []⟩] [] false)
  (.cond (.t 9)
    (.seq (.region [
  ⟨some 10, .mov (.t 5), none, []⟩,
  ⟨some 4, .mov (.t 10), none, []⟩] [] false)
    (.ret))
    (.skip))))
  (.seq (.region [
  ⟨some 11, .load (some 1) (.t 2), none, []⟩,
  ⟨some 12, .mov (.t 1), none, []⟩,
  ⟨some 13, .call false [] 58 [(.t 11), (.t 12)], none, []⟩,
  ⟨some 4, .mov (.t 13), none, []⟩] [] false)
  (.ret)))
def tf114 : TFunc := { np := 2, nt := 14, res := [.tmp 4], own := false, body := tc114 }
noncomputable def S114 (F51 : (List Dim) → (Option Err)) (F58 : (List Dim) → (List Int) → (Option Err)) (a0 : (List Dim)) (a1 : (List Int)) : Option Err :=
  bno (F51 a0) fun y1 =>
  br (!(Err.isNil y1))
  (some y1)
  (bno (F58 a0 a1) fun y2 =>
  some y2)
theorem s114 (F51 : (List Dim) → (Option Err)) (F58 : (List Dim) → (List Int) → (Option Err)) (a0 : (List Dim)) (a1 : (List Int)) : tf114.run [⟨51, [(.st .outl)], .err, fun x => F51 x, false, []⟩,
  ⟨58, [(.st .outl), (.sl .int)], .err, fun x => F58 x.1 x.2, false, []⟩] [(.st .outl), (.sl .int)] .err (a0, a1) = S114 F51 F58 a0 a1 := by kernel_rfl
noncomputable def P114 (a0 : (List Dim)) (a1 : (List Int)) : Option Err := S114 P51 P58 a0 a1
noncomputable def k114 : CSpec := ⟨114, [(.st .outl), (.sl .int)], .err, fun x => P114 x.1 x.2, false, []⟩
theorem r114 {S : Seat} (h : Ok1 S 114 tf114) (h51 : Rt S k51) (h58 : Rt S k58) : Rt S k114 := fun x y hy =>
  Ok1.sound h (C := [k51, k58]) (CSound.cons h51 (CSound.cons h58 CSound.nil)) rfl rfl rfl ((s114 P51 P58 x.1 x.2).trans hy) rfl

/- tallyhall/place.Number -/
def tc132 : TCode :=
  .seq (.region [
  ⟨some 2, .box (.t 0), none, []⟩,
  ⟨some 4, .mov (.c (.int .i64 0)), none, []⟩,
  ⟨some 5, .mov (.c (.nilIface)), none, []⟩] [] false)
  (.seq (.seq (.region [
  ⟨some 7, .load (some 1) (.t 2), none, []⟩,
  ⟨some 8, .mov (.t 1), none, []⟩,
  ⟨some 9, .call false [] 114 [(.t 7), (.t 8)], none, []⟩,
  ⟨some 6, .mov (.t 9), none, []⟩] [] false)
  (.seq (.region [
  ⟨some 10, .mov (.t 6), none, []⟩,
  ⟨some 11, .eqn false true (.t 10), none, []⟩] [] false)
  (.cond (.t 11)
    (.seq (.region [
  ⟨some 12, .mov (.t 6), none, []⟩,
  ⟨some 4, .mov (.c (.int .i64 0)), none, []⟩,
  ⟨some 5, .mov (.t 12), none, []⟩] [] false)
    (.ret))
    (.skip))))
  (.seq (.region [
  ⟨some 13, .load (some 1) (.t 2), none, []⟩,
  ⟨some 14, .mov (.t 1), none, []⟩,
  ⟨some 15, .call false [] 49 [(.t 13), (.t 14)], none, []⟩,
  ⟨some 4, .mov (.t 15), none, []⟩,
  ⟨some 5, .mov (.c (.nilIface)), none, []⟩] [] false)
  (.ret)))
def tf132 : TFunc := { np := 2, nt := 16, res := [.tmp 4, .tmp 5], own := false, body := tc132 }
noncomputable def S132 (F114 : (List Dim) → (List Int) → (Option Err)) (F49 : (List Dim) → (List Int) → (Option Int)) (a0 : (List Dim)) (a1 : (List Int)) : Option (Int × Err) :=
  bno (F114 a0 a1) fun y1 =>
  br (!(Err.isNil y1))
  (some ((0 : Int), y1))
  (bno (F49 a0 a1) fun y2 =>
  some (y2, Err.nil))
theorem s132 (F114 : (List Dim) → (List Int) → (Option Err)) (F49 : (List Dim) → (List Int) → (Option Int)) (a0 : (List Dim)) (a1 : (List Int)) : tf132.run [⟨114, [(.st .outl), (.sl .int)], .err, fun x => F114 x.1 x.2, false, []⟩,
  ⟨49, [(.st .outl), (.sl .int)], .int, fun x => F49 x.1 x.2, false, []⟩] [(.st .outl), (.sl .int)] (.tp [.int, .err]) (a0, a1) = S132 F114 F49 a0 a1 := by kernel_rfl
noncomputable def P132 (a0 : (List Dim)) (a1 : (List Int)) : Option (Int × Err) := S132 P114 P49 a0 a1
noncomputable def k132 : CSpec := ⟨132, [(.st .outl), (.sl .int)], (.tp [.int, .err]), fun x => P132 x.1 x.2, false, []⟩
theorem r132 {S : Seat} (h : Ok1 S 132 tf132) (h114 : Rt S k114) (h49 : Rt S k49) : Rt S k132 := fun x y hy =>
  Ok1.sound h (C := [k114, k49]) (CSound.cons h114 (CSound.cons h49 CSound.nil)) rfl rfl rfl ((s132 P114 P49 x.1 x.2).trans hy) rfl

/- tallyhall/place.Leaf -/
def tc141 : TCode :=
  .seq (.region [
  ⟨some 2, .box (.t 0), none, []⟩,
  ⟨some 4, .mov (.c (.bool false)), none, []⟩,
  ⟨some 5, .mov (.c (.nilIface)), none, []⟩] [] false)
  (.seq (.seq (.region [
  ⟨some 7, .load (some 1) (.t 2), none, []⟩,
  ⟨some 8, .mov (.t 1), none, []⟩,
  ⟨some 9, .call false [] 114 [(.t 7), (.t 8)], none, []⟩,
  ⟨some 6, .mov (.t 9), none, []⟩] [] false)
  (.seq (.region [
  ⟨some 10, .mov (.t 6), none, []⟩,
  ⟨some 11, .eqn false true (.t 10), none, []⟩] [] false)
  (.cond (.t 11)
    (.seq (.region [
  ⟨some 12, .mov (.t 6), none, []⟩,
  ⟨some 4, .mov (.c (.bool false)), none, []⟩,
  ⟨some 5, .mov (.t 12), none, []⟩] [] false)
    (.ret))
    (.skip))))
  (.seq (.region [
  ⟨some 13, .load (some 1) (.t 2), none, []⟩,
  ⟨some 14, .mov (.t 1), none, []⟩,
  ⟨some 15, .call false [] 59 [(.t 13), (.t 14)], none, []⟩,
  ⟨some 4, .mov (.t 15), none, []⟩,
  ⟨some 5, .mov (.c (.nilIface)), none, []⟩] [] false)
  (.ret)))
def tf141 : TFunc := { np := 2, nt := 16, res := [.tmp 4, .tmp 5], own := false, body := tc141 }
noncomputable def S141 (F114 : (List Dim) → (List Int) → (Option Err)) (F59 : (List Dim) → (List Int) → (Option Bool)) (a0 : (List Dim)) (a1 : (List Int)) : Option (Bool × Err) :=
  bno (F114 a0 a1) fun y1 =>
  br (!(Err.isNil y1))
  (some (false, y1))
  (bno (F59 a0 a1) fun y2 =>
  some (y2, Err.nil))
theorem s141 (F114 : (List Dim) → (List Int) → (Option Err)) (F59 : (List Dim) → (List Int) → (Option Bool)) (a0 : (List Dim)) (a1 : (List Int)) : tf141.run [⟨114, [(.st .outl), (.sl .int)], .err, fun x => F114 x.1 x.2, false, []⟩,
  ⟨59, [(.st .outl), (.sl .int)], .bool, fun x => F59 x.1 x.2, false, []⟩] [(.st .outl), (.sl .int)] (.tp [.bool, .err]) (a0, a1) = S141 F114 F59 a0 a1 := by kernel_rfl
noncomputable def P141 (a0 : (List Dim)) (a1 : (List Int)) : Option (Bool × Err) := S141 P114 P59 a0 a1
noncomputable def k141 : CSpec := ⟨141, [(.st .outl), (.sl .int)], (.tp [.bool, .err]), fun x => P141 x.1 x.2, false, []⟩
theorem r141 {S : Seat} (h : Ok1 S 141 tf141) (h114 : Rt S k114) (h59 : Rt S k59) : Rt S k141 := fun x y hy =>
  Ok1.sound h (C := [k114, k59]) (CSound.cons h114 (CSound.cons h59 CSound.nil)) rfl rfl rfl ((s141 P114 P59 x.1 x.2).trans hy) rfl

end Ab
