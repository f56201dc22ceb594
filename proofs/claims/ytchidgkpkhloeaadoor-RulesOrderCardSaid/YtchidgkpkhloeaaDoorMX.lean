/-
  What is known of functions that are shown by hand: what they come to.
-/
import Derived.Test.YtchidgkpkhloeaaDoorB2
namespace Ab
open Go
end Ab
