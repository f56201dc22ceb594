import Derived.Test.YtchidgkpkhloeaaGreatDoorH1
import Derived.Test.YtchidgkpkhloeaaGreatDoorH2
set_option linter.unusedVariables false
set_option linter.unusedSimpArgs false
namespace Ab
open Go
section
def getL:List Entry->List Int->Option Int
 | [],_=>none
 | e :: l,p=>if cmpL e.at_ p < 0 then getL l p else if cmpL e.at_ p=0 then some e.n else none
def cellL:Option Int->Cell
 | some n=>⟨1,n⟩
 | none=>⟨0,0⟩
end
section
theorem PClone_eq {α:Type} {xs:List α} (h:xs.length<=1000000):zfO xs=some xs:=by unfold zfO;rw[zP (by unfold zZ;omega)]
theorem P70_eq (p:List Int) (dim:Nat) (k:Int) (h1:dim < p.length) (hl:p.length<=1000):P70 p (dim:Int) k=some (p.set dim k):=by
 have e:P76 p=some p:=PClone_eq (by omega);have hd:(0:Int)<=(dim:Int)∧(dim:Int) < ((p.length:Nat):Int):=by omega
 simp only[P70,S70,e,zB,zP hd,Int.toNat_natCast,List.getElem?_eq_getElem h1]
theorem parts_up {l:List Member} (h:Rooted l) {i x:Int} (hx:x∈partsOf l i):i < x∧0<=x∧x < l.length:=by obtain ⟨k,rfl,h1,h2⟩:=zg8.1 hx;unfold zhe at h2;rw[List.getElem?_eq_getElem h1] at h2;simp only[decide_eq_true_eq] at h2;have:=h.up k _ (List.getElem?_eq_getElem h1);omega
section
variable (o:List Dim) (dim:Nat) (ms:List Member)
end
section
variable {o:List Dim} {dim:Nat} {d:Dim}
variable (ok:OutOk o) (hd:o[dim]? = some d)
include ok hd
end
section
variable {o:List Dim} {dim:Nat} {ms:List Member}
end
end
end Ab
