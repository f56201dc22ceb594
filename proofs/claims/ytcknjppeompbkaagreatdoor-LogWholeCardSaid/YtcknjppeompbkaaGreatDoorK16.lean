import Derived.Test.YtcknjppeompbkaaGreatDoorK3
set_option linter.all false
namespace Ab
open Go
section
def cntB (out:List ByteArray) (s:ByteArray):Nat:=(out.takeWhile fun a=>Op.bytesLess a.toList s.toList).length
def insB (out:List ByteArray) (s:ByteArray):List ByteArray:=if out[cntB out s]? = some s then out else out.take (cntB out s)++[s]++out.drop (cntB out s)
def zgz (l:List Node):List ByteArray:=(l.filter fun x=>decide (x.op=2)).map Node.name
def insL (l:List Node):List ByteArray:=l.foldl (fun out x=>if x.op=2 then insB out x.name else out) []
def zeu (l:List Node):(zgz l).length<=l.length:=by unfold zgz;rw[Ar];exact Bs _ _
def refL_app (a b:List Node):zgz (a++b)=zgz a++zgz b:=by unfold zgz;rw[CC,Bl]
end
section
set_option maxRecDepth 100000
section
variable (F113:LD->LI->LI->(Option (Int×Bool))) (F114:LD->LI->(Option Err)) (F27:LD->LY->(Option Err)) (F45:Dim->Int->Int->(Option (Int×Bool))) (F46:Dim->Int->(Option LI)) (F58:LD->LI->(Option Err)) (F59:LD->LI->(Option Bool))
end
end
end Ab
