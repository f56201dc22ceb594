import Derived.Test.YtchidgkpkhloeaaGreatDoorMRr
import Derived.Test.YtchidgkpkhloeaaGreatDoorE2
set_option linter.unusedVariables false
set_option linter.unusedSimpArgs false
noncomputable section
namespace Ab
open Go
section
end
section
section
variable {n:List (List Int)}
structure Bel (n:List (List Int)) (i:Nat) (A:List Int):Prop where
 up:A.Pairwise (· < ·)
 rng:∀ x∈A,0<=x∧x < n.length
 re:∀ x∈A,Reach n i x.toNat
 one:∀ x∈n.getD i [],x∈A
end
section
variable {d:Dim}
end
end
section
section
variable {n:List (List Int)} (hr:Rng n) (hn:n.length<=100000) (hw:∀ i,(n.getD i []).length<=100000)
include hr hn hw
end
def zeo (o:List Dim) (i:Nat):Option (Int×Int×Int):=match o[i]? with
 | some d=>if ¬ (qy d).2=0 then some ((i:Int),(qy d).1,(qy d).2) else none
 | none=>none
def allE (o:List Dim):Int×Int×Int:=if ¬ (jl o).2.2=0 then jl o else match (List.range o.length).findSome? (zeo o) with
 | some r=>r
 | none=>(-1, -1,0)
theorem ruleF_ne {o:List Dim} {i:Nat} {r:Int×Int×Int} (h:zeo o i=some r):¬ r.2.2=0:=by
 unfold zeo at h;split at h
 ·split at h
  ·rename_i c;cases h;exact c
  ·cases h
 ·cases h
theorem P320_eq (o:List Dim):P320 o=some ((allE o).1,(allE o).2.1,zn (allE o).2.2):=by
 simp only[P320,S320,P14_eq,zo,zN];unfold allE;by_cases h0:(jl o).2.2=0
 ·obtain ok:=zcm.1 h0;have hl:=ok.len;rw[decide_eq_true h0,Bool.not_true,zg,if_neg (fun h=>h h0)];have L:=wI (B:=zfe P315 o) o.length (fun i=>(zeo o i).map fun r=>(r.1,r.2.1,zn r.2.2)) (fun i hi=>by
   have hx:=List.getElem?_eq_getElem hi;simp only[zfe];rw[zF,if_pos (by omega)];simp only[zf,hx,zo,P315_eq,zN];unfold zeo;rw[hx,qX (by omega) (by omega)];simp only;by_cases c:(qy o[i]).2=0
   ·rw[decide_eq_true c,if_neg (fun h=>h c)];rfl
   ·rw[decide_eq_false c,if_pos c]
    rfl) (by
   simp only[zfe];rw[zF,if_neg (by omega)]
   rfl)
  rw[jD,L,qg];cases (List.range o.length).findSome? (zeo o)<;>rfl
 ·rw[decide_eq_false h0,Bool.not_false,zq,if_pos h0]
theorem P352_eq (o:List Dim):P352 o=some (zn (allE o).2.2):=by simp only[P352,S352,P320_eq,zo]
end
section
end
end Ab
