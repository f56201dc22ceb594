/-
  Plain laws: the document's rules: whom each member of a dim needs, what is wrong with it, in which order they are told.
-/
import Derived.Test.YtcknjppeompbkaaGreatDoorMRr
import Derived.Test.YtcknjppeompbkaaGreatDoorK4
set_option linter.all false
namespace Ab
open Go
section
variable {n:List (List Int)}
structure Bel (n:List (List Int)) (i:Nat) (A:List Int):Prop where
 up:A.Pairwise (· < ·)
 rng:∀ x∈A,0<=x∧x < n.length
 re:∀ x∈A,Reach n i x.toNat
 one:∀ x∈n.getD i [],x∈A
end
section
variable {d:Dim}
end
end Ab
