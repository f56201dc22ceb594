/-
  Functions of the program as typed code, what they come to, and their contracts: written by program (mk.py).
-/
import Derived.Test.YtcknjppeompbkaaGreatDoorK3
set_option linter.all false
namespace Ab
open Go
set_option maxRecDepth 100000
section
variable (F245:LN->(Option ((List ByteArray)×Err))) (F297:(List ByteArray)->ByteArray->(Option Bool)) (F298_299:LN->(LC×(List ByteArray))->(Option Cell)) (F299:ByteArray->LC->(List ByteArray)->(Option Cell)) (F300:(List ByteArray)->ByteArray->(Option Int)) (F33:Cell->Cell->Int->(Option Cell)) (F34:Cell->Cell->(Option Cell)) (F35:Cell->Cell->(Option Cell)) (F52:Cell->(Option Err)) (F8:Int->(Option Cell))
end
end Ab
