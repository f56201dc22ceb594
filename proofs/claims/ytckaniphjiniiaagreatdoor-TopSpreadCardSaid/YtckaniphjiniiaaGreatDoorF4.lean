import Derived.Test.YtckaniphjiniiaaGreatDoorE2
set_option linter.all false
noncomputable section
namespace Ab
open Go
section
set_option maxRecDepth 100000
section
variable (F100:Dim->Int->(Option LI)) (F122:LD->LY->(Option Int)) (F247:ByteArray->(Option (LN×Int×Int))) (F319:LD->(Option (Int×Int×Int))) (F321:Dim->(Option ((List LI)×Int×Int))) (F324:LD->(Option Int)) (F347:LI->Int->(Option LI)) (F348:LI->Int->(Option Bool)) (F94:LD->(Option (Int×Int×Int))) (F95:Dim->(Option (Int×Int))) (F96:Dim->ByteArray->(Option Int))
end
end
section
end
section
section
variable {n:List (List Int)}
structure Bel (n:List (List Int)) (i:Nat) (A:List Int):Prop where
 up:A.Pairwise (· < ·)
 rng:∀x∈A,0<=x∧x<n.length
 re:∀x∈A,Reach n i x.toNat
 one:∀x∈n.getD i [],x∈A
end
section
variable {d:Dim}
end
end
section
section
variable {n:List (List Int)} (hr:Rng n) (hn:n.length<=100000) (hw:∀i,(n.getD i []).length<=100000)
include hr hn hw
end
def zgC (o:List Dim) (i:Nat):Option (Int×Int×Int):=match o[i]? with
 | some d=>if ¬(qQ d).2=0 then some ((i:Int),(qQ d).1,(qQ d).2) else none
 | none=>none
def allE (o:List Dim):Int×Int×Int:=if ¬(je o).2.2=0 then je o else match (List.range o.length).findSome? (zgC o) with
 | some r=>r
 | none=>(-1, -1,0)
def ruleF_ne {o:List Dim} {i:Nat} {r:Int×Int×Int} (h:zgC o i=some r):¬r.2.2=0:=by
 unfold zgC at h;split at h
 ·split at h
  ·rename_i c;cases h;exact c
  ·cases h
 ·cases h
def P320_eq (o:List Dim):P320 o=some ((allE o).1,(allE o).2.1,zn (allE o).2.2):=by
 simp only[P320,S320,P14_eq,zj,zB];unfold allE;by_cases h0:(je o).2.2=0
 ·obtain ok:=zbf.1 h0;have hl:=ok.len;rw[decide_eq_true h0,AW,za,if_neg (fun h=>h h0)];have L:=yo (B:=zhQ P315 o) o.length (fun i=>(zgC o i).map fun r=>(r.1,r.2.1,zn r.2.2)) (fun i hi=>by
   have hx:=Aa hi;simp only[zhQ];rw[zJ,if_pos (by omega)];simp only[zg,hx,zj,P315_eq,zB];unfold zgC;rw[hx,zR (by omega) (by omega)];simp only;by_cases c:(qQ o[i]).2=0
   ·rw[decide_eq_true c,if_neg (fun h=>h c)];rfl
   ·rw[decide_eq_false c,if_pos c]
    rfl) (by
   simp only[zhQ];rw[zJ,if_neg (by omega)]
   rfl)
  rw[zW,L,qC];cases (List.range o.length).findSome? (zgC o)<;>rfl
 ·rw[decide_eq_false h0,BN,ze,if_pos h0]
def P352_eq (o:List Dim):P352 o=some (zn (allE o).2.2):=by simp only[P352,S352,P320_eq,zj]
end
section
end
end Ab
