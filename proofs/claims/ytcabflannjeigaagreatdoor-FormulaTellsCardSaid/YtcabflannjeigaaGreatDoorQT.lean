/-
  Plain laws: what the functions of package tree come to.
-/
import Derived.Test.YtcabflannjeigaaGreatDoorMT
import Derived.Test.YtcabflannjeigaaGreatDoorQO
namespace Ab
open Go
set_option linter.unusedVariables false
set_option linter.unusedSimpArgs false

/-! ### paths -/
/-- Each member stands behind that of which it is a part. -/
structure Rooted (l : List Member) : Prop where
  up : ∀ (i : Nat) (m : Member), l[i]? = some m → -1 ≤ m.parent ∧ m.parent < i
  sign : ∀ (i : Nat) (m : Member), l[i]? = some m → -1 ≤ m.sign ∧ m.sign ≤ 1
  form : ∀ (i : Nat) (m : Member), l[i]? = some m → 0 ≤ m.parent → hasF l m.parent = false
/-! ### numbers of members -/
/-! ### how a leaf counts -/
section
variable {d : Dim}
end
end Ab
