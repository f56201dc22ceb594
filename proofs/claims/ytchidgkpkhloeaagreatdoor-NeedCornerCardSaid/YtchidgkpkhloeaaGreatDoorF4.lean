import Derived.Test.YtchidgkpkhloeaaGreatDoorE2
set_option linter.unusedVariables false
set_option linter.unusedSimpArgs false
noncomputable section
namespace Ab
open Go
section
set_option maxRecDepth 100000
section
variable (F100:Dim->Int->(Option LI)) (F122:LD->LY->(Option Int)) (F247:ByteArray->(Option (LN×Int×Int))) (F319:LD->(Option (Int×Int×Int))) (F321:Dim->(Option ((List LI)×Int×Int))) (F324:LD->(Option Int)) (F347:LI->Int->(Option LI)) (F348:LI->Int->(Option Bool)) (F94:LD->(Option (Int×Int×Int))) (F95:Dim->(Option (Int×Int))) (F96:Dim->ByteArray->(Option Int))
end
end
section
end
section
section
variable {n:List (List Int)}
structure Bel (n:List (List Int)) (i:Nat) (A:List Int):Prop where
 up:A.Pairwise (· < ·)
 rng:∀ x∈A,0<=x∧x < n.length
 re:∀ x∈A,Reach n i x.toNat
 one:∀ x∈n.getD i [],x∈A
end
section
variable {d:Dim}
end
end
section
section
variable {n:List (List Int)} (hr:Rng n) (hn:n.length<=100000) (hw:∀ i,(n.getD i []).length<=100000)
include hr hn hw
end
def zcJ (o:List Dim) (i:Nat):Option (Int×Int×Int):=match o[i]? with
 | some d=>if ¬ (qZ d).2=0 then some ((i:Int),(qZ d).1,(qZ d).2) else none
 | none=>none
def zcU (o:List Dim):Int×Int×Int:=if ¬ (yK o).2.2=0 then yK o else match (List.range o.length).findSome? (zcJ o) with
 | some r=>r
 | none=>(-1, -1,0)
theorem zgW {o:List Dim} {i:Nat} {r:Int×Int×Int} (h:zcJ o i=some r):¬ r.2.2=0:=by
 unfold zcJ at h;split at h
 ·split at h
  ·rename_i c;cases h;exact c
  ·cases h
 ·cases h
end
section
end
end Ab
