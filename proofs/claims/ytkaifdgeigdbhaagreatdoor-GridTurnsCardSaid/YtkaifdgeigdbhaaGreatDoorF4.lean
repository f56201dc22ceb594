import Derived.Test.YtkaifdgeigdbhaaGreatDoorE2
set_option linter.unusedVariables false
set_option linter.unusedSimpArgs false
noncomputable section
namespace Ab
open Go
section
set_option maxRecDepth 100000
section
variable (F100:Dim->Int->(Option LI)) (F122:LD->LY->(Option Int)) (F247:ByteArray->(Option (LN×Int×Int))) (F319:LD->(Option (Int×Int×Int))) (F321:Dim->(Option ((List LI)×Int×Int))) (F324:LD->(Option Int)) (F347:LI->Int->(Option LI)) (F348:LI->Int->(Option Bool)) (F94:LD->(Option (Int×Int×Int))) (F95:Dim->(Option (Int×Int))) (F96:Dim->ByteArray->(Option Int))
end
end
section
end
section
section
variable {n:List (List Int)}
structure Bel (n:List (List Int)) (i:Nat) (A:List Int):Prop where
 up:A.Pairwise (· < ·)
 rng:∀ x∈A,0<=x∧x < n.length
 re:∀ x∈A,Reach n i x.toNat
 one:∀ x∈n.getD i [],x∈A
end
section
variable {d:Dim}
end
end
section
section
variable {n:List (List Int)} (hr:Rng n) (hn:n.length<=100000) (hw:∀ i,(n.getD i []).length<=100000)
include hr hn hw
end
def zec (o:List Dim) (i:Nat):Option (Int×Int×Int):=match o[i]? with
 | some d=>if ¬ (qD d).2=0 then some ((i:Int),(qD d).1,(qD d).2) else none
 | none=>none
def allE (o:List Dim):Int×Int×Int:=if ¬ (jN o).2.2=0 then jN o else match (List.range o.length).findSome? (zec o) with
 | some r=>r
 | none=>(-1, -1,0)
theorem ruleF_ne {o:List Dim} {i:Nat} {r:Int×Int×Int} (h:zec o i=some r):¬ r.2.2=0:=by
 unfold zec at h;split at h
 ·split at h
  ·rename_i c;cases h;exact c
  ·cases h
 ·cases h
theorem P320_eq (o:List Dim):P320 o=some ((allE o).1,(allE o).2.1,zq (allE o).2.2):=by
 simp only[P320,S320,P14_eq,zl,zZ];unfold allE;by_cases h0:(jN o).2.2=0
 ·obtain ok:=zdJ.1 h0;have hl:=ok.len;rw[decide_eq_true h0,Bool.not_true,zg,if_neg (fun h=>h h0)];have L:=wF (B:=ze7 P315 o) o.length (fun i=>(zec o i).map fun r=>(r.1,r.2.1,zq r.2.2)) (fun i hi=>by
   have hx:=List.getElem?_eq_getElem hi;simp only[ze7];rw[zu,if_pos (by omega)];simp only[zh,hx,zl,P315_eq,zZ];unfold zec;rw[hx,ju (by omega) (by omega)];simp only;by_cases c:(qD o[i]).2=0
   ·rw[decide_eq_true c,if_neg (fun h=>h c)];rfl
   ·rw[decide_eq_false c,if_pos c]
    rfl) (by
   simp only[ze7];rw[zu,if_neg (by omega)]
   rfl)
  rw[qY,L,qn];cases (List.range o.length).findSome? (zec o)<;>rfl
 ·rw[decide_eq_false h0,Bool.not_false,zo,if_pos h0]
theorem P352_eq (o:List Dim):P352 o=some (zq (allE o).2.2):=by simp only[P352,S352,P320_eq,zl]
end
section
end
end Ab
