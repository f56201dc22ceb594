import Derived.Test.YtchidgkpkhloeaaGreatDoorH7
set_option linter.unusedVariables false
set_option linter.unusedSimpArgs false
namespace Ab
open Go
section
end
section
noncomputable def zkp (o:List Dim) (l:List Entry):List Cell:=(List.range (sizeN o)).map fun k=>sol o l (qq o k).1
theorem P332_eq {o:List Dim} {l:List Entry} (hl:Lst Entry.gd l):P332 o l=some (if wu o l=0 then (zkp o l,.nil) else ([],zm (wu o l))):=by
 unfold P332;rw[if_pos hl,zf3 hl];by_cases h:wu o l=0
 ·rw[if_pos h,h];rfl
 ·rw[if_neg h];have he:zm (wu o l)≠.nil:=fun c=>h (zah.1 c);generalize zm (wu o l)=e at he;cases e<;>simp_all
theorem zcK (o:List Dim) (l:List Entry):(zkp o l).length=sizeN o:=by simp[zkp]
def noForm (o:List Dim):Prop:=∀ d∈o,∀ m∈d.members,m.formula=⟨#[]⟩
theorem zhB {d:Dim} (ok:DimOk d) (h:∀ m∈d.members,m.formula=⟨#[]⟩):(qz d).2=0:=by
 have h0:=zg0.2 ok;have hl:=ok.len;have hraw:∀ i x,x∈zhF d i->∃ k:Nat,x=k∧i < k∧k < d.members.length:=by
  intro i x hx;unfold zhF at hx;split at hx
  ·rename_i m hm;rw[if_pos (h m (List.mem_of_getElem? hm))] at hx;have:=parts_up ok.rooted (List.mem_filter.1 hx).1;exact ⟨x.toNat,by omega,by omega,by omega⟩
  ·cases hx
 have hmem:∀ i,i < d.members.length->zem d i=none:=(by intro i hi;have hm:=List.getElem?_eq_getElem hi;unfold zem;rw[hm];simp only;rw[if_neg (fun c=>c.1 (h _ (List.getElem_mem hi))),if_neg];intro c;have:=ziX.1 c;obtain ⟨k,hk,_⟩:=hraw i _ ((zaJ _).2 _ |>.1 this);omega);have hrng:=zfJ hmem;have hnd:∀ a b,b∈nd (yY d) a->a < b:=by
  intro a b hb;obtain ⟨x,hx,rfl⟩:=List.mem_map.1 hb;by_cases ha:a < d.members.length
  ·rw[List.getD_eq_getElem?_getD,zfK ha] at hx;obtain ⟨k,rfl,hk,_⟩:=hraw a x ((zaJ _).2 _ |>.1 hx);omega
  ·rw[List.getD_eq_getElem?_getD,List.getElem?_eq_none (by rw[zcJ];omega)] at hx;cases hx
 have hreach:∀ a b,Reach (yY d) a b->a < b:=by
  intro a b hr
  induction hr with
  | one h=>exact hnd _ _ h
  | more h _ ih=>exact Nat.lt_trans (hnd _ _ h) ih
 rw[show qz d=za6 d from if_neg (fun c=>c h0)];unfold za6;rw[List.findSome?_eq_none_iff.2 (fun i hi=>by rw[hmem i (List.mem_range.1 hi)];rfl)];simp only;rw[List.findSome?_eq_none_iff.2 (fun i hi=>by
  unfold zeQ;rw[if_neg (fun c=>Nat.lt_irrefl _ (hreach i i ((selfN_iff hrng i).1 c)))]
  rfl)]
theorem zke {o:List Dim} (ok:OutOk o) (h:noForm o):CubeOk o:=⟨ok,fun d hd=>zhB (ok.dims d hd) (h d hd)⟩
end
section
end
end Ab
