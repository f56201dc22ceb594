import Derived.Test.YtchidgkpkhloeaaGreatDoorH1
set_option linter.all false
namespace Ab
open Go
section
set_option maxRecDepth 100000
section
variable (F27:LD->LY->(Option Err)) (F71:LD->LY->Edit->(Option (LY×Err))) (F72:LY->(Option LY))
end
end
section
set_option maxRecDepth 100000
section
variable (F113:LD->LI->LI->(Option (Int×Bool))) (F114:LD->LI->(Option Err)) (F27:LD->LY->(Option Err)) (F45:Dim->Int->Int->(Option (Int×Bool))) (F46:Dim->Int->(Option LI)) (F58:LD->LI->(Option Err)) (F59:LD->LI->(Option Bool))
end
end
end Ab
