import Derived.Test.YtchidgkpkhloeaaGreatDoorHJ
import Derived.Test.YtchidgkpkhloeaaGreatDoorH2
import Derived.Test.YtchidgkpkhloeaaGreatDoorF4
open List (getElem?_zip_eq_some length_zip)
open Nat (min_self)
set_option linter.unusedVariables false
set_option linter.unusedSimpArgs false
set_option linter.unusedSectionVars false
namespace Ab
open Go
section
@[simp] theorem P92_nil (e:Int):P92 .nil e=some (decide (0=e)):=rfl
@[simp] theorem P92_no (k e:Int):P92 (.no k) e=some (decide (k=e)):=rfl
@[simp] theorem P92_errOf (k e:Int):P92 (zE k) e=some (decide (k=e)):=by
 unfold zE;split
 ·subst k;rfl
 ·rfl
theorem same_loop {β:Type} [DecidableEq β] {B:Int->Option (LR Int Bool)} (a b:List β) (hl:a.length=b.length) (h:∀ (i:Nat) (x y:β),a[i]? = some x->b[i]? = some y->B (i:Int)=some (if x=y then .nx ((i:Int)+1) else .fin false)) (hn:B (a.length:Int)=some (.dn (a.length:Int))) :
  lp B 0 (fun _=>some true)=some (decide (a=b)):=by
 have:=wq (B:=B) (fun p:β×β=>decide (¬ p.1=p.2)) (a.zip b) false true (fun i y hy=>by
  obtain ⟨h1,h2⟩:=getElem?_zip_eq_some.1 hy;rw[h i _ _ h1 h2];by_cases e:y.1=y.2<;>simp[e]) (by rw[length_zip,← hl,min_self];exact hn)
 rw[this];congr 1;by_cases e:a=b
 ·subst e;have:((a.zip a).any fun p=>decide (¬ p.1=p.2))=false:=(by simp only[List.any_eq_false];intro p hp;have:=List.mem_iff_getElem?.1 hp;obtain ⟨i,hi⟩:=this;obtain ⟨h1,h2⟩:=getElem?_zip_eq_some.1 hi;rw[h1] at h2;simp[Option.some.inj h2]);rw[this];simp
 ·have:((a.zip b).any fun p=>decide (¬ p.1=p.2))=true:=by
   cases hc:((a.zip b).any fun p=>decide (¬ p.1=p.2)) with
   | true=>rfl
   | false =>
    exfalso;apply e;apply List.ext_getElem?;intro i;by_cases hi:i < a.length
    ·have hp:(a.zip b)[i]? = some (a[i],b[i]'(by omega)):=getElem?_zip_eq_some.2 ⟨List.getElem?_eq_getElem hi,List.getElem?_eq_getElem (by omega)⟩;have:=List.any_eq_false.1 hc _ (List.mem_iff_getElem?.2 ⟨i,hp⟩);simp at this;rw[List.getElem?_eq_getElem hi,List.getElem?_eq_getElem (by omega),this]
    ·rw[List.getElem?_eq_none (by omega),List.getElem?_eq_none (by omega)]
  rw[if_pos this];simp[e]
theorem zdT (a b:List Int) (h:a.length<=9223372036854775807):P104 a b=some (decide (a=b)):=by
 simp only[P104,S104];by_cases hl:a.length=b.length
 ·have e:((a.length:Nat):Int)=((b.length:Nat):Int):=by omega
  simp only[e,not_true,decide_false,zk];refine same_loop a b hl (fun i x y hx hy => ?_) (by simp[zh0]);have hi:=(List.getElem?_eq_some_iff.1 hx).1;have e:((i:Nat):Int) < ((a.length:Nat):Int):=by omega
  simp only[zh0,e,decide_true,zn,zd,hx,hy,zl];rw[qV (by omega) (by omega)];by_cases e:x=y<;>simp[e]
 ·have e:¬ ((a.length:Nat):Int)=((b.length:Nat):Int):=by omega
  have e2:¬ a=b:=fun e=>hl (by rw[e]);simp[e,e2]
end
section
section
variable {o:List Dim} {p k:List Int} (ok:OutOk o) (hp:Fit o p) (hk:Fit o k)
include ok hp hk
end
theorem zfX (o:List Dim) (p:List Int) (h:p.length<=9223372036854775807):P123 o p=some (ym o p):=by
 simp only[P123,S123];unfold ym;by_cases h1:p.length=o.length
 ·have e:((p.length:Nat):Int)=((o.length:Nat):Int):=by omega
  rw[if_neg (by simpa using h1)];simp only[e,not_true,decide_false,zk];rw[wq badM (p.zip o) 1 0 (fun i y hy => ?_) (by rw[length_zip,← h1,min_self];simp[zhZ])]
  ·obtain ⟨e1,e2⟩:=getElem?_zip_eq_some.1 hy;have hi:=(List.getElem?_eq_some_iff.1 e1).1;have e:((i:Nat):Int) < ((p.length:Nat):Int):=by omega
   simp only[zhZ,e,decide_true,zn,zd,e1,e2,zl,badM];rw[qV (by omega) (by omega)];by_cases c1:y.1 < 0
   ·simp[c1]
   ·by_cases c2:(y.2.members.length:Int)<=y.1<;>simp[c1,c2]
 ·have e:¬ ((p.length:Nat):Int)=((o.length:Nat):Int):=by omega
  rw[if_pos h1];simp[e]
theorem P130_eq {o:List Dim} {p:List Int} (hf:Fit o p) (h:p.length<=9223372036854775807) (hd:∀ d∈o,d.members.length<=1000):P130 o p=some (wy o p):=by
 simp only[P130,S130];rw[wq (fun x:Int×Dim => !wz x.2.members x.1.toNat) (p.zip o) false true (fun i y hy => ?_) (by rw[length_zip,← hf.len,min_self];simp[zhY])]
 ·rw[wy,all_any];cases (p.zip o).any fun x => !wz x.2.members x.1.toNat<;>rfl
 ·obtain ⟨e1,e2⟩:=getElem?_zip_eq_some.1 hy;have hi:=(List.getElem?_eq_some_iff.1 e1).1;have e:((i:Nat):Int) < ((p.length:Nat):Int):=by omega
  have hm:=hf.mem i _ _ e1 e2;have hl:=hd _ (List.mem_of_getElem? e2);obtain ⟨k,hk⟩:=Int.eq_ofNat_of_zero_le hm.1;rw[hk] at hm e1;simp only[zhY,e,decide_true,zn,zd,e1,e2,zl,hk,P102_eq hl (by omega:k < y.2.members.length),Int.toNat_natCast];rw[qV (by omega) (by omega)];cases wz y.2.members k<;>rfl
end
section
theorem P142_eq (o:List Dim) (n:Nat) (hl:o.length<=1000) (hn:n<=1000000000) (hp:∀ d∈o,0 < d.members.length∧d.members.length<=1000000):P142 o (n:Int)=some (qL o n).1:=by have hsame:S142_L1 o=zeC o:=rfl;have:=P69_eq o n hl hn hp;simp only[P69,S69,Int.toNat_natCast,List.length_replicate] at this;simp only[P142,S142,Int.toNat_natCast,hsame];exact this
end
end Ab
