import Derived.Test.YtchidgkpkhloeaaGreatDoorMF
import Derived.Test.YtchidgkpkhloeaaGreatDoorH7
set_option linter.unusedVariables false
set_option linter.unusedSimpArgs false
namespace Ab
open Go
section
end
section
noncomputable def allC (o:List Dim) (l:List Entry):List Cell:=(List.range (sizeN o)).map fun k=>sol o l (jt o k).1
theorem P330_eq {o:List Dim} {l:List Entry} {p:List Int} (hl:Lst Entry.gd l) (hp:p.length<=9223372036854775807):P330 o l p=some (if wo o l=0 then (if ji o p=0 then (sol o l p,.nil) else (⟨0,0⟩,zB (ji o p))) else (⟨0,0⟩,zB (wo o l))):=by
 unfold P330;rw[if_pos ⟨hl,hp⟩,zf0 hl,zeL o p hp];by_cases h:wo o l=0
 ·rw[if_pos h,h];by_cases h2:ji o p=0
  ·rw[if_pos h2,h2];rfl
  ·rw[if_neg h2,show zB 0=Err.nil from rfl];have he:zB (ji o p)≠.nil:=fun c=>h2 (yT.1 c);generalize zB (ji o p)=e at he ⊢;cases e<;>simp_all
 ·rw[if_neg h];have he:zB (wo o l)≠.nil:=fun c=>h (yT.1 c);generalize zB (wo o l)=e at he;cases e<;>simp_all
theorem allC_len (o:List Dim) (l:List Entry):(allC o l).length=sizeN o:=by simp[allC]
end
section
theorem P331_eq (o:List Dim) (p:List Int) (hp:p.length<=9223372036854775807):P331 o p=some (if (zeI o).2.2=0 then (if ji o p=0 then (byL o p,.nil) else (0,zB (ji o p))) else (0,zB (zeI o).2.2)):=by
 simp only[P331,S331,P352_eq,zk,qu,zeL o p hp];by_cases h:(zeI o).2.2=0
 ·rw[if_pos h,decide_eq_true h];simp only[Bool.not_true,zg];by_cases h2:ji o p=0
  ·rw[if_pos h2,decide_eq_true h2];have ok:=zbm.1 h;have hf:=zaM.1 h2;have hl:=ok.out.len;simp only[Bool.not_true,zg,P353_eq hf (by rw[hf.len];omega) (fun d hd=>by have:=(ok.out.dims d hd).len;omega),zk]
  ·rw[if_neg h2,decide_eq_false h2];rfl
 ·rw[if_neg h,decide_eq_false h];rfl
theorem allC_at {o:List Dim} {l:List Entry} (ok:RightC o l) {p:List Int} (hf:Fit o p):zn (allC o l) ((wC o p:Nat):Int)=some (sol o l p):=by
 rw[za];unfold allC;rw[List.getElem?_map,List.getElem?_range (za1 hf)];simp only[Option.map_some,wc ok.pos hf]
end
end Ab
