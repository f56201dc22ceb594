/-
  Functions of the program as typed code, what they come to, and their contracts: written by program (mk.py).
-/
import Derived.Test.YtcabflannjeigaaGreatDoorB2
import Derived.KernelRfl
import Derived.Test.YtcabflannjeigaaGreatDoorMO
namespace Ab
open Go
set_option linter.unusedVariables false
set_option maxRecDepth 100000

/- tallyhall/tree.ready -/
/- tallyhall/tree.PartsOf -/
/- tallyhall/tree.IsLeaf -/
/- tallyhall/tree.up -/
/- tallyhall/tree.WeightOf -/
/- tallyhall/tree.Weight -/
/- tallyhall/tree.LeafsOf -/
/- tallyhall/tree.Leafs -/
/- tallyhall/tree.Parts -/
/- tallyhall/tree.Path -/
/- tallyhall/tree.Leaf -/
/- tallyhall/tree.Depth -/
end Ab
