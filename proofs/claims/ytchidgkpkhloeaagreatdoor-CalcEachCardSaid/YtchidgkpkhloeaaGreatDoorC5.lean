import Derived.Test.YtchidgkpkhloeaaGreatDoorHJ
import Derived.Test.YtchidgkpkhloeaaGreatDoorC4
import Derived.Test.YtchidgkpkhloeaaGreatDoorF4
set_option linter.unusedVariables false
set_option linter.unusedSimpArgs false
set_option linter.unusedSectionVars false
namespace Ab
open Go
section
@[simp] theorem P92_nil (e:Int):P92 .nil e=some (decide (0=e)):=rfl
@[simp] theorem P92_no (k e:Int):P92 (.no k) e=some (decide (k=e)):=rfl
@[simp] theorem P92_errOf (k e:Int):P92 (zn k) e=some (decide (k=e)):=by
 unfold zn;split
 ·subst k;rfl
 ·rfl
end
section
section
variable {o:List Dim} {p k:List Int} (ok:OutOk o) (hp:Fit o p) (hk:Fit o k)
include ok hp hk
end
theorem less_loop (a b:List Int) (h:a.length<=9223372036854775807):∀ (n i:Nat),a.length - i=n->i<=a.length->i<=b.length->jn (lpO (zbw a b) (i:Int)) (fun _=>some (decide (((List.length a:Nat):Int) < ((List.length b:Nat):Int))))=some (decide (cmpL (a.drop i) (b.drop i) < 0)):=by
 intro n
 induction n with
 | zero =>
  intro i hi hl hb;obtain rfl:i=a.length:=by omega
  rw[zP (y:=(a.length:Int)) (by simp[zbw])];rw[List.drop_length];simp only[qp];by_cases hlt:a.length < b.length
  ·have e:((a.length:Nat):Int) < ((b.length:Nat):Int):=by omega
   rw[List.drop_eq_getElem_cons hlt];simp[e,cmpL]
  ·have e:¬ ((a.length:Nat):Int) < ((b.length:Nat):Int):=by omega
   rw[List.drop_eq_nil_of_le (by omega)];simp[e,cmpL]
 | succ n ih =>
  intro i hi hl hb;have hia:i < a.length:=by omega
  have e:((i:Nat):Int) < ((a.length:Nat):Int):=by omega
  rw[List.drop_eq_getElem_cons hia];by_cases hib:i < b.length
  ·have e2:((i:Nat):Int) < ((b.length:Nat):Int):=by omega
   rw[List.drop_eq_getElem_cons hib];have hB:zbw a b (i:Int)=some (if a[i]=b[i] then .nx ((i:Int)+1) else .fin (decide (a[i] < b[i]))):=(by simp only[zbw,e,e2,decide_true,zm,zx,qp,zb,List.getElem?_eq_getElem hia,List.getElem?_eq_getElem hib,zi];rw[qL (by omega) (by omega)];by_cases c1:a[i]=b[i]<;>simp[c1])
   by_cases c0:a[i]=b[i]
   ·rw[if_pos c0] at hB;have hc:cmpL (a[i] :: a.drop (i+1)) (b[i] :: b.drop (i+1))=cmpL (a.drop (i+1)) (b.drop (i+1)):=(by simp only[cmpL];rw[if_neg (by omega),if_neg (by omega)]);rw[zaN hB,hc];exact ih (i+1) (by omega) (by omega) (by omega)
   ·rw[if_neg c0] at hB;rw[wB hB];by_cases c1:a[i] < b[i]
    ·have hc:cmpL (a[i] :: a.drop (i+1)) (b[i] :: b.drop (i+1)) = -1:=by simp only[cmpL];rw[if_pos c1]
     rw[hc];simp[c1]
    ·have c2:b[i] < a[i]:=by omega
     have hc:cmpL (a[i] :: a.drop (i+1)) (b[i] :: b.drop (i+1))=1:=by simp only[cmpL];rw[if_neg c1,if_pos c2]
     rw[hc];simp[c1]
  ·have e2:¬ ((i:Nat):Int) < ((b.length:Nat):Int):=by omega
   have e3:¬ ((a.length:Nat):Int) < ((b.length:Nat):Int):=by omega
   rw[List.drop_eq_nil_of_le (by omega:b.length<=i),zP (y:=(i:Int)) (by simp[zbw,e,e2])];simp[e3,cmpL]
theorem zh9 (a b:List Int) (h:a.length<=9223372036854775807):P151 a b=some (decide (cmpL a b < 0)):=by simp only[P151,S151,qy];exact less_loop a b h a.length 0 (by omega) (Nat.zero_le _) (Nat.zero_le _)
end
section
def zbH (o:List Dim) (p:List Int):Int:=if (qj o).2.2=0 then jq o p else (qj o).2.2
theorem P114_eq (o:List Dim) (p:List Int) (h:p.length<=9223372036854775807):P114 o p=some (zn (zbH o p)):=by simp only[P114,S114,zjc,zi,zG,zbH];by_cases h0:(qj o).2.2=0<;>simp[h0,zdy o p h]
theorem zit {o:List Dim} {p:List Int}:zbH o p=0↔OutOk o∧Fit o p:=by
 unfold zbH;by_cases h0:(qj o).2.2=0
 ·rw[if_pos h0,jS];exact ⟨fun h=>⟨yd.1 h0,h⟩,fun h=>h.2⟩
 ·rw[if_neg h0];exact ⟨fun h=>absurd h h0,fun h=>absurd (yd.2 h.1) h0⟩
end
end Ab
