/-
  What is known of functions that are shown by hand: what they come to.
-/
import Derived.Test.YtcabflannjeigaaGreatDoorB2
namespace Ab
open Go
/-- The number of an error. -/
def P105 (e : Err) : Option Int := match e with
  | .nil => some 0
  | .no n => some n
  | .oth _ => none
def k105 : CSpec := ⟨105, [.err], .int, fun x => P105 x, false, []⟩
end Ab
