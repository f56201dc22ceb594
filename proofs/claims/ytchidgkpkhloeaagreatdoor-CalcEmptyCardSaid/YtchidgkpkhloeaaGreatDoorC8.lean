import Derived.Test.YtchidgkpkhloeaaGreatDoorF1
import Derived.Test.YtchidgkpkhloeaaGreatDoorH9
import Derived.Lib.AtoiAllCases
import Derived.Test.YtchidgkpkhloeaaGreatDoorC7
import Derived.Test.YtchidgkpkhloeaaGreatDoorMFp
section
namespace Ab
open Go
set_option linter.unusedVariables false
set_option linter.unusedSimpArgs false
end Ab
end
section
namespace Ab
open Go
set_option linter.unusedVariables false
set_option linter.unusedSimpArgs false
end Ab
end
section
namespace Ab
open Go
set_option linter.unusedVariables false
set_option linter.unusedSimpArgs false
inductive Fx where
  | num (n : Int)
  | ref (s : ByteArray)
  | bin (o : Int) (a b : Fx)
section
variable {l : List Node}
-- as text
-- what it comes to
-- its nodes in a row
end
end Ab
end
section
namespace Ab
open Go
set_option linter.unusedVariables false
set_option linter.unusedSimpArgs false
-- to whom it refers
section
variable {l : List Node}
end
end Ab
end
