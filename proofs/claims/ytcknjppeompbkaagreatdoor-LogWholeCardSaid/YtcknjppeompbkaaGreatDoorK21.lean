import Derived.Test.YtcknjppeompbkaaGreatDoorMR
import Derived.Test.YtcknjppeompbkaaGreatDoorK6
set_option linter.all false
namespace Ab
open Go
section
open Go Go.RowKit Go.Sort Go.Proofs
end
section
def P97_eq (s:ByteArray):P97 s=some (if qa s=true then 2 else 0):=by
 by_cases h1:s=⟨#[]⟩
 ·subst h1;simp[P97,S97,qa]
 by_cases h2:8 < s.size
 ·have:(8:Int) < ((s.size:Nat):Int):=by omega
  simp[P97,S97,qa,h1,h2,this]
 have h3:¬ (8:Int) < ((s.size:Nat):Int):=by omega
 have aG:s.data.toList.length=s.size:=rfl;simp only[P97,S97,h1,h3,decide_false,zi,qp,yR];rw[zfa (fun c:UInt8=>decide (c.toNat < 97) || decide (122 < c.toNat)) s.data.toList 2 0 (fun i y hy => ?_) (by rw[aG];simp[S97_L1])]
 ·simp[qa,h1,h2]
 ·have hi:=(Aa.1 hy).1;have e:((i:Nat):Int) < ((s.size:Nat):Int):=by omega
  simp only[S97_L1,e,decide_true,zw,zn,hy,zq];rw[ww (by omega) (by omega)];have e1:((y.toNat:Nat):Int) < 97↔y.toNat < 97:=by omega
  have e2:122 < ((y.toNat:Nat):Int)↔122 < y.toNat:=by omega
  by_cases c1:y.toNat < 97<;>by_cases c2:122 < y.toNat<;>simp[e1,e2,c1,c2]
end
end Ab
