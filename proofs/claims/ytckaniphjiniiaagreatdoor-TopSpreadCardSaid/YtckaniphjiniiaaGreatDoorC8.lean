import Derived.Lib.AtoiAllCases
import Derived.Test.YtckaniphjiniiaaGreatDoorC7
set_option linter.all false
namespace Ab
open Go
section
set_option maxRecDepth 100000
section
variable (F157:Int->(Option ByteArray)) (F241:LN->(Option Err)) (F252:Int->(Option Bool)) (F254:LN->Int->(Option ByteArray)) (F260:Int->(Option Bool))
end
end
section
end
section
end
section
inductive Fx where
 | num (n:Int)
 | ref (s:ByteArray)
 | bin (o:Int) (a b:Fx)
section
variable {l:List Node}
-- as text
-- what it comes to
-- its nodes in a row
end
end
section
-- to whom it refers
section
variable {l:List Node}
end
end
end Ab
