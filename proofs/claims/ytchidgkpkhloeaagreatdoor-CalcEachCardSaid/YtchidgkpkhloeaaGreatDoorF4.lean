import Derived.Test.YtchidgkpkhloeaaGreatDoorMRr
import Derived.Test.YtchidgkpkhloeaaGreatDoorE2
set_option linter.unusedVariables false
set_option linter.unusedSimpArgs false
noncomputable section
namespace Ab
open Go
section
theorem P100_eq {d:Dim} (hl:d.members.length<=1000) (i:Int):P100 d i=some (partsOf d.members i):=by
 simp only[P100,S100,qy];rw[zgj (zea d.members i) d.members.length (fun k acc hk ha => ?_) (fun acc=>by simp[zh6])]
 ·rfl
 ·have e:((k:Nat):Int) < ((d.members.length:Nat):Int):=by omega
  have hr:acc.length+1<=zu:=by unfold zu;omega
  simp only[zh6,e,decide_true,zm,zb,List.getElem?_eq_getElem hk,zi,zea,List.length_singleton,zp hr,zx,yH];rw[qL (by omega) (by omega)];by_cases h:(d.members[k]).parent=i<;>simp[h]
theorem P102_eq {d:Dim} (hl:d.members.length<=1000) {k:Nat} (hk:k < d.members.length):P102 d k=some (wC d.members k):=by have e:decide (((List.length (partsOf d.members k):Nat):Int)=0)=decide (partsOf d.members k=[]):=(by congr 1;rw[← List.length_eq_zero_iff];exact propext ⟨fun h=>by omega,fun h=>by omega⟩);simp only[P102,S102,zb,List.getElem?_eq_getElem hk,zi,P100_eq hl,wC,e];by_cases h:(d.members[k]).formula=⟨#[]⟩<;>simp[h]
end
section
section
variable {n:List (List Int)}
structure Bel (n:List (List Int)) (i:Nat) (A:List Int):Prop where
 up:A.Pairwise (· < ·)
 rng:∀ x∈A,0<=x∧x < n.length
 re:∀ x∈A,Reach n i x.toNat
 one:∀ x∈n.getD i [],x∈A
end
section
variable {d:Dim}
end
end
section
section
variable {n:List (List Int)} (hr:Rng n) (hn:n.length<=100000) (hw:∀ i,(n.getD i []).length<=100000)
include hr hn hw
end
def zba (o:List Dim) (i:Nat):Option (Int×Int×Int):=match o[i]? with
 | some d=>if ¬ (qv d).2=0 then some ((i:Int),(qv d).1,(qv d).2) else none
 | none=>none
def zbv (o:List Dim):Int×Int×Int:=if ¬ (qj o).2.2=0 then qj o else match (List.range o.length).findSome? (zba o) with
 | some r=>r
 | none=>(-1, -1,0)
theorem zil {o:List Dim} {i:Nat} {r:Int×Int×Int} (h:zba o i=some r):¬ r.2.2=0:=by
 unfold zba at h;split at h
 ·split at h
  ·rename_i c;cases h;exact c
  ·cases h
 ·cases h
theorem P320_eq (o:List Dim):P320 o=some ((zbv o).1,(zbv o).2.1,zn (zbv o).2.2):=by
 simp only[P320,S320,P14_eq,zi,zG];unfold zbv;by_cases h0:(qj o).2.2=0
 ·obtain ok:=yd.1 h0;have hl:=ok.len;rw[decide_eq_true h0,Bool.not_true,zd,if_neg (fun h=>h h0)];have L:=wT (B:=zfx P315 o) o.length (fun i=>(zba o i).map fun r=>(r.1,r.2.1,zn r.2.2)) (fun i hi=>by
   have hx:=List.getElem?_eq_getElem hi;simp only[zfx];rw[zl,if_pos (by omega)];simp only[zb,hx,zi,P315_eq,zG];unfold zba;rw[hx,qL (by omega) (by omega)];simp only;by_cases c:(qv o[i]).2=0
   ·rw[decide_eq_true c,if_neg (fun h=>h c)];rfl
   ·rw[decide_eq_false c,if_pos c]
    rfl) (by
   simp only[zfx];rw[zl,if_neg (by omega)]
   rfl)
  rw[qy,L,qb];cases (List.range o.length).findSome? (zba o)<;>rfl
 ·rw[decide_eq_false h0,Bool.not_false,zm,if_pos h0]
theorem P352_eq (o:List Dim):P352 o=some (zn (zbv o).2.2):=by simp only[P352,S352,P320_eq,zi]
end
section
end
end Ab
