import Derived.Test.YtkaifdgeigdbhaaGreatDoorHN
import Derived.Test.YtkaifdgeigdbhaaGreatDoorC5
set_option linter.all false
namespace Ab
open Go
section
end
section
end
end Ab
