import Derived.Test.YtchidgkpkhloeaaGreatDoorMF
import Derived.Test.YtchidgkpkhloeaaGreatDoorHM
import Derived.Test.YtchidgkpkhloeaaGreatDoorH7
section
namespace Ab
open Go
set_option linter.unusedVariables false
set_option linter.unusedSimpArgs false
end Ab
end
section
namespace Ab
open Go
set_option linter.unusedVariables false
set_option linter.unusedSimpArgs false
theorem P330_eq {o:List Dim} {l:List Entry} {p:List Int} (hl:Lst Entry.gd l) (hp:p.length≤9223372036854775807):P330 o l p=some (if cubeE o l=0 then (if fitsE o p=0 then (sol o l p,.nil) else (⟨0,0⟩,errOf (fitsE o p))) else (⟨0,0⟩,errOf (cubeE o l))):=by
 unfold P330
 rw [if_pos ⟨hl,hp⟩,P349_eq hl,P58_eq o p hp]
 by_cases h:cubeE o l=0
 ·rw [if_pos h,h]
  by_cases h2:fitsE o p=0
  ·rw [if_pos h2,h2];rfl
  ·rw [if_neg h2,show errOf 0=Err.nil from rfl]
   have he:errOf (fitsE o p)≠.nil:=fun c=>h2 (errOf_zero.1 c)
   generalize errOf (fitsE o p)=e at he ⊢
   cases e<;>simp_all
 ·rw [if_neg h]
  have he:errOf (cubeE o l)≠.nil:=fun c=>h (errOf_zero.1 c)
  generalize errOf (cubeE o l)=e at he
  cases e<;>simp_all
theorem rules_plain {d:Dim} (ok:DimOk d) (h:∀ m∈d.members,m.formula=⟨#[]⟩):(rulesE d).2=0:=by
 have h0:=dim_ok.2 ok
 have hl:=ok.len
 have hraw:∀ i x,x∈rawN d i→∃ k:Nat,x=k∧i < k∧k < d.members.length:=by
  intro i x hx
  unfold rawN at hx
  split at hx
  ·rename_i m hm
   rw [if_pos (h m (List.mem_of_getElem? hm))] at hx
   have:=parts_up ok.rooted (List.mem_filter.1 hx).1
   exact ⟨x.toNat,by omega,by omega,by omega⟩
  ·cases hx
 have hmem:∀ i,i < d.members.length→memF d i=none:=by
  intro i hi
  have hm:=List.getElem?_eq_getElem hi
  unfold memF
  rw [hm]
  simp only
  rw [if_neg (fun c=>c.1 (h _ (List.getElem_mem hi))),if_neg]
  intro c
  have:=hasI_mem.1 c
  obtain ⟨k,hk,_⟩:=hraw i _ ((setI_ok _).2 _ |>.1 this)
  omega
 have hrng:=allN_rng hmem
 have hnd:∀ a b,b∈nd (allN d) a→a < b:=by
  intro a b hb
  obtain ⟨x,hx,rfl⟩:=List.mem_map.1 hb
  by_cases ha:a < d.members.length
  ·rw [List.getD_eq_getElem?_getD,allN_get ha] at hx
   obtain ⟨k,rfl,hk,_⟩:=hraw a x ((setI_ok _).2 _ |>.1 hx)
   omega
  ·rw [List.getD_eq_getElem?_getD,List.getElem?_eq_none (by rw [allN_len];omega)] at hx
   cases hx
 have hreach:∀ a b,Reach (allN d) a b→a < b:=by
  intro a b hr
  induction hr with
  | one h=>exact hnd _ _ h
  | more h _ ih=>exact Nat.lt_trans (hnd _ _ h) ih
 rw [show rulesE d=rulesG d from if_neg (fun c=>c h0)]
 unfold rulesG
 rw [List.findSome?_eq_none_iff.2 (fun i hi=>by rw [hmem i (List.mem_range.1 hi)];rfl)]
 simp only
 rw [List.findSome?_eq_none_iff.2 (fun i hi=>by
  unfold ringF
  rw [if_neg (fun c=>Nat.lt_irrefl _ (hreach i i ((selfN_iff hrng i).1 c)))]
  rfl)]
end Ab
end
section
namespace Ab
open Go
set_option linter.unusedVariables false
set_option linter.unusedSimpArgs false
theorem P331_eq (o:List Dim) (p:List Int) (hp:p.length≤9223372036854775807):P331 o p=some (if (allE o).2.2=0 then (if fitsE o p=0 then (byL o p,.nil) else (0,errOf (fitsE o p))) else (0,errOf (allE o).2.2)):=by
 simp only [P331,S331,P352_eq,bno_s,errOf_nil,P58_eq o p hp]
 by_cases h:(allE o).2.2=0
 ·rw [if_pos h,decide_eq_true h]
  simp only [Bool.not_true,br_false]
  by_cases h2:fitsE o p=0
  ·rw [if_pos h2,decide_eq_true h2]
   have ok:=allE_zero.1 h
   have hf:=fits_ok.1 h2
   have hl:=ok.out.len
   simp only [Bool.not_true,br_false,P353_eq hf (by rw [hf.len];omega) (fun d hd=>by have:=(ok.out.dims d hd).len;omega),bno_s]
  ·rw [if_neg h2,decide_eq_false h2];rfl
 ·rw [if_neg h,decide_eq_false h];rfl
end Ab
end
