import Derived.Test.YtkaifdgeigdbhaaGreatDoorHJ
import Derived.Test.YtkaifdgeigdbhaaGreatDoorH2
import Derived.Test.YtkaifdgeigdbhaaGreatDoorF4
set_option linter.unusedVariables false
set_option linter.unusedSimpArgs false
set_option linter.unusedSectionVars false
namespace Ab
open Go
section
@[simp] theorem P92_nil (e:Int):P92 .nil e=some (decide (0=e)):=rfl
@[simp] theorem P92_no (k e:Int):P92 (.no k) e=some (decide (k=e)):=rfl
@[simp] theorem P92_errOf (k e:Int):P92 (zq k) e=some (decide (k=e)):=by
 unfold zq;split
 ·subst k;rfl
 ·rfl
theorem zfr {β:Type} [DecidableEq β] {B:Int->Option (LR Int Bool)} (a b:List β) (hl:a.length=b.length) (h:∀ (i:Nat) (x y:β),a[i]? = some x->b[i]? = some y->B (i:Int)=some (if x=y then .nx ((i:Int)+1) else .fin false)) (hn:B (a.length:Int)=some (.dn (a.length:Int))) :
  lp B 0 (fun _=>some true)=some (decide (a=b)):=by
 have:=zbZ (B:=B) (fun p:β×β=>decide (¬ p.1=p.2)) (a.zip b) false true (fun i y hy=>by
  obtain ⟨h1,h2⟩:=List.getElem?_zip_eq_some.1 hy;rw[h i _ _ h1 h2];by_cases e:y.1=y.2<;>simp[e]) (by rw[List.length_zip,← hl,Nat.min_self];exact hn)
 rw[this];congr 1;by_cases e:a=b
 ·subst e;have:((a.zip a).any fun p=>decide (¬ p.1=p.2))=false:=(by simp only[List.any_eq_false];intro p hp;have:=List.mem_iff_getElem?.1 hp;obtain ⟨i,hi⟩:=this;obtain ⟨h1,h2⟩:=List.getElem?_zip_eq_some.1 hi;rw[h1] at h2;simp[Option.some.inj h2]);rw[this];simp
 ·have:((a.zip b).any fun p=>decide (¬ p.1=p.2))=true:=by
   cases hc:((a.zip b).any fun p=>decide (¬ p.1=p.2)) with
   | true=>rfl
   | false =>
    exfalso;apply e;apply List.ext_getElem?;intro i;by_cases hi:i < a.length
    ·have hp:(a.zip b)[i]? = some (a[i],b[i]'(by omega)):=List.getElem?_zip_eq_some.2 ⟨List.getElem?_eq_getElem hi,List.getElem?_eq_getElem (by omega)⟩;have:=List.any_eq_false.1 hc _ (List.mem_iff_getElem?.2 ⟨i,hp⟩);simp at this;rw[List.getElem?_eq_getElem hi,List.getElem?_eq_getElem (by omega),this]
    ·rw[List.getElem?_eq_none (by omega),List.getElem?_eq_none (by omega)]
  rw[if_pos this];simp[e]
theorem P104_eq (a b:List Int) (h:a.length<=9223372036854775807):P104 a b=some (decide (a=b)):=by
 simp only[P104,S104];by_cases hl:a.length=b.length
 ·have e:((a.length:Nat):Int)=((b.length:Nat):Int):=by omega
  simp only[e,not_true,decide_false,zg];refine zfr a b hl (fun i x y hx hy => ?_) (by simp[zhv]);have hi:=(List.getElem?_eq_some_iff.1 hx).1;have e:((i:Nat):Int) < ((a.length:Nat):Int):=by omega
  simp only[zhv,e,decide_true,zo,zh,hx,hy,zl];rw[ju (by omega) (by omega)];by_cases e:x=y<;>simp[e]
 ·have e:¬ ((a.length:Nat):Int)=((b.length:Nat):Int):=by omega
  have e2:¬ a=b:=fun e=>hl (by rw[e]);simp[e,e2]
theorem P24_eq (a b:List Cell) (h:a.length<=9223372036854775807):P24 a b=some (decide (a=b)):=by
 simp only[P24,S24];by_cases hl:a.length=b.length
 ·have e:((a.length:Nat):Int)=((b.length:Nat):Int):=by omega
  simp only[e,not_true,decide_false,zg];refine zfr a b hl (fun i x y hx hy => ?_) (by simp[S24_L1]);have hi:=(List.getElem?_eq_some_iff.1 hx).1;have e:((i:Nat):Int) < ((a.length:Nat):Int):=by omega
  simp only[S24_L1,e,decide_true,zo,zh,hx,hy,zl];rw[ju (by omega) (by omega)];have e2:x=y↔x.k=y.k∧x.n=y.n:=by cases x;cases y;simp
  by_cases h1:x.k=y.k<;>by_cases h2:x.n=y.n<;>simp[e2,h1,h2]
 ·have e:¬ ((a.length:Nat):Int)=((b.length:Nat):Int):=by omega
  have e2:¬ a=b:=fun e=>hl (by rw[e]);simp[e,e2]
end
section
section
variable {o:List Dim} {p k:List Int} (ok:OutOk o) (hp:Fit o p) (hk:Fit o k)
include ok hp hk
end
end
section
end
end Ab
