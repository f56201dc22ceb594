import Derived.Test.YtchidgkpkhloeaaDoorB2
import Derived.KernelRfl
import Derived.Test.YtchidgkpkhloeaaDoorMX
section
namespace Ab
open Go
set_option linter.unusedVariables false
set_option maxRecDepth 100000

/- tallyhall/tallysame.Cells -/
/- tallyhall/tallysame.Place -/
/- tallyhall/tallysame.Ints -/
/- tallyhall/tallysame.Error -/
end Ab
end

section
namespace Ab
open Go
set_option linter.unusedVariables false
set_option maxRecDepth 100000

/- tallyhall/tallysame.Places -/
end Ab
end
