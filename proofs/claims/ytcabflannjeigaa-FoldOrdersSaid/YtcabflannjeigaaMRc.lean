/-
  Functions of the program as typed code, what they come to, and their contracts: written by program (mk.py).
-/
import Derived.Test.YtcabflannjeigaaB2
import Derived.KernelRfl
namespace Ab
open Go
set_option linter.unusedVariables false
set_option maxRecDepth 100000

/- tallyhall/tallyref1.Cell -/
/- tallyhall/tallyref1.Of -/
noncomputable def S150 (a0 : Int) : Option Cell :=
  jn (σ := Bool) (α := Cell) (br (decide (a0 < (-1000000000000 : Int)))
  (inlO (some true))
  (inlO (some (decide ((1000000000000 : Int) < a0))))) fun x1 =>
  br x1
  (some (Cell.mk (2 : Int) (0 : Int)))
  (some (Cell.mk (1 : Int) a0))
noncomputable def P150 (a0 : Int) : Option Cell := S150 a0
/- tallyhall/tallyref1.Digits -/
/- tallyhall/tallyref1.Show -/
/- tallyhall/tallyref1.Plus -/
noncomputable def S146 (F150 : Int → (Option Cell)) (a0 : Cell) (a1 : Cell) (a2 : Int) : Option Cell :=
  jn (σ := Bool) (α := Cell) (br (decide ((Cell.k a0) = (2 : Int)))
  (inlO (some true))
  (inlO (some (decide ((Cell.k a1) = (2 : Int)))))) fun x1 =>
  br x1
  (some (Cell.mk (2 : Int) (0 : Int)))
  (jn (σ := Bool) (α := Cell) (br (decide ((Cell.k a0) = (0 : Int)))
  (inlO (some (decide ((Cell.k a1) = (0 : Int)))))
  (inlO (some false))) fun x2 =>
  br x2
  (some (Cell.mk (0 : Int) (0 : Int)))
  (bno (F150 (wi ((Cell.n a0) + (wi (a2 * (Cell.n a1)))))) fun y3 =>
  some y3))
noncomputable def P146 (a0 : Cell) (a1 : Cell) (a2 : Int) : Option Cell := S146 P150 a0 a1 a2
/- tallyhall/tallyref1.size -/
/- tallyhall/tallyref1.Times -/
/- tallyhall/tallyref1.Over -/
/- tallyhall/tallyref1.Int -/
/- tallyhall/tallyref1.Read -/
end Ab
